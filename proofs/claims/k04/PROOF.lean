import PyProof.Rows.All
import Wide.All
import OpenK.AllK
import Wide.FinOn
import HandS.ForMost
import HandS.Walk
import HandS.IsInst
import HandS.Wide
import HandS.Zip
import HandS.Defaults
import HandS.Flow
import HandS.Style
import HandS.TupAny
import HandS.TupMul
import HandS.TupLe
import HandS.Small
import HandS.CallLocal
import HandS.Conv
import HandS.More
import KE.KStateDown
import HandS.Head0
import HandS.Head1
import HandS.Head2
import HandS.HeadEnd
import HandS.HeadHook1
import HandS.HeadHook2
import HandS.RaiseMore
import HandS.HeadHook3
import HandS.Iter
import HandS.WideBits
import HandS.NoneIn
import KE.KDictZip
import KE.KDictList
import HandS.OwnIter
import PySem.Challenge.RW_scenetongue_k04_roots_compared
set_option Elab.async false
set_option linter.all false
set_option maxRecDepth 100000
set_option maxHeartbeats 4000000
namespace ML
open PySem PySem.Spec PyProof.Rows L2

/-- plain data, and places of the store -/
inductive D where
  | non | bl (b : Bool) | int (i : Int) | str (x : Str) | tup (xs : List D) | loc (l : Nat) | ty (n : String) | fn (x : Str)
  deriving Inhabited
/-- an object of the store: a list; a list that is only read; a dict by ints and texts -/
inductive Ob where
  | lst (xs : List D)
  | rol (xs : List D)
  | dk (kvs : List (Key × D))
abbrev Sto : Type := List Ob
/-- where a place stands, and whether it is written to -/
abbrev Lo : Type := Addr × Bool

/-- the written part, and what the module's names hold -/
structure Gx where
  K : PySem.W.Frag
  mg : Str → Option Value
abbrev gx (X : Cx) : Gx := ⟨X.K, X.mg⟩

mutual
def Rp (G : Gx) (ρ : List Lo) (H : Hp) : D → V → Prop
  | .non, v => v = .non
  | .bl b, v => v = .bl b
  | .int i, v => v = .int i
  | .str x, v => v = .str x
  | .ty n, v => v = .ty n
  | .fn x, v => ∃ u, G.mg x = some u ∧ RelV v u
  | .loc l, v => ∃ a, ρ[l]? = some a ∧ v = .ref a.1
  | .tup ds, v => ∃ a vs, v = .ref a ∧ SqT G.K H a vs ∧ RpL G ρ H ds vs
def RpL (G : Gx) (ρ : List Lo) (H : Hp) : List D → List V → Prop
  | [], vs => vs = []
  | d :: ds, vs => ∃ v r, vs = v :: r ∧ Rp G ρ H d v ∧ RpL G ρ H ds r
end

def RpK (G : Gx) (ρ : List Lo) (H : Hp) : List (Key × D) → List (Key × V) → Prop
  | [], vs => vs = []
  | d :: ds, vs => ∃ v r, vs = (d.1, v) :: r ∧ Rp G ρ H d.2 v ∧ RpK G ρ H ds r

/-- a list that is only read: locked, or of the written part -/
def SqR (K : PySem.W.Frag) (H : Hp) (a : Addr) (xs : List V) : Prop :=
  (∃ o, H a = some (.frz o (.lst xs))) ∨
    ∃ (o : Obj) (its : Array Value) (n : Nat), K.lookup a = some o ∧ o.cls = .type "list" ∧ o.dict = none ∧ o.data = .seq its n ∧ its.size ≤ sizeLine ∧ Vals xs its.toList
theorem SqR.sq {K : PySem.W.Frag} {H : Hp} {a : Addr} {xs : List V} (h : SqR K H a xs) : SqL K H a xs := h.elim (fun h => .inl (.inr h)) .inr
theorem SqR.of {K : PySem.W.Frag} {H : Hp} {a : Addr} {xs : List V} (hO : Only H) (h : SqL K H a xs) : SqR K H a xs := by
  rcases h with (h | h) | h
  · rcases hO a with z | ⟨o, ys, z⟩
    · rw [z] at h; cases h
    · rw [z] at h; cases h
  · exact .inl h
  · exact .inr h
def ObR (G : Gx) (ρ : List Lo) (H : Hp) (a : Addr) : Ob → Prop
  | .lst ds => ∃ vs, H a = some (.lst vs) ∧ RpL G ρ H ds vs
  | .rol ds => ∃ vs, SqR G.K H a vs ∧ RpL G ρ H ds vs
  | .dk kvs => ∃ ws, H a = some (.dK ws) ∧ RpK G ρ H kvs ws
def Ob.mu : Ob → Bool
  | .rol _ => false
  | _ => true

structure SR (G : Gx) (ρ : List Lo) (H : Hp) (S : List Ob) : Prop where
  len : ρ.length = S.length
  obj : ∀ (l : Nat) (o : Ob) (a : Lo), S[l]? = some o → ρ[l]? = some a → ObR G ρ H a.1 o
  mu : ∀ (l : Nat) (o : Ob) (a : Lo), S[l]? = some o → ρ[l]? = some a → o.mu = a.2
  inj : ∀ (l l' : Nat) (a : Addr), ρ[l]? = some (a, true) → ρ[l']? = some (a, true) → l = l'

/-- what data lean on -/
structure Mon (ρ : List Lo) (H : Hp) (ρ' : List Lo) (H' : Hp) : Prop where
  pre : ρ <+: ρ'
  tup : ∀ a xs, H a = some (.tup xs) → H' a = some (.tup xs)
  frz : ∀ a o u, H a = some (.frz o u) → H' a = some (.frz o u)
/-- what a step leaves -/
structure Step (ρ : List Lo) (H : Hp) (ρ' : List Lo) (H' : Hp) : Prop extends Mon ρ H ρ' H' where
  new : ∀ a, (a, true) ∈ ρ' → (a, true) ∈ ρ ∨ H a = none
  oth : ∀ a o, H a = some o → (a, true) ∉ ρ → H' a = some o
theorem Step.refl (ρ : List Lo) (H : Hp) : Step ρ H ρ H := ⟨⟨List.prefix_refl _, fun _ _ h => h, fun _ _ _ h => h⟩, fun _ h => .inl h, fun _ _ h _ => h⟩
theorem Step.trans {ρ ρ1 ρ2 : List Lo} {H H1 H2 : Hp} (a : Step ρ H ρ1 H1) (b : Step ρ1 H1 ρ2 H2) : Step ρ H ρ2 H2 := by
  refine ⟨⟨a.pre.trans b.pre, fun x xs h => b.tup _ _ (a.tup _ _ h), fun x o u h => b.frz _ _ _ (a.frz _ _ _ h)⟩, fun x hx => ?_, fun x o h hn => ?_⟩
  · rcases b.new x hx with h | h
    · exact a.new x h
    · by_cases hm : (x, true) ∈ ρ
      · exact .inl hm
      · refine .inr ?_
        cases q : H x with
        | none => rfl
        | some o => rw [a.oth x o q hm] at h; cases h
  · refine b.oth x o (a.oth x o h hn) fun hm => ?_
    rcases a.new x hm with z | z
    · exact hn z
    · rw [z] at h; cases h
theorem Mon.seqT {K : PySem.W.Frag} {ρ ρ' : List Lo} {H H' : Hp} {a : Addr} {xs : List V} (s : Mon ρ H ρ' H') (h : SqT K H a xs) : SqT K H' a xs := by
  rcases h with (h | ⟨o, h⟩) | h
  · exact .inl (.inl (s.tup _ _ h))
  · exact .inl (.inr ⟨o, s.frz _ _ _ h⟩)
  · exact .inr h
theorem pre_get {α : Type} {l l' : List α} (h : l <+: l') {i : Nat} {x : α} (e : l[i]? = some x) : l'[i]? = some x := by
  obtain ⟨r, rfl⟩ := h
  rw [List.getElem?_append_left]
  · exact e
  · exact (List.getElem?_eq_some_iff.mp e).1

mutual
theorem Rp.mon {G : Gx} {ρ ρ' : List Lo} {H H' : Hp} (s : Mon ρ H ρ' H') : ∀ {d : D} {v : V}, Rp G ρ H d v → Rp G ρ' H' d v
  | .non, _, h => by simpa [Rp] using h
  | .bl _, _, h => by simpa [Rp] using h
  | .int _, _, h => by simpa [Rp] using h
  | .str _, _, h => by simpa [Rp] using h
  | .ty _, _, h => by simpa [Rp] using h
  | .fn _, _, h => by simpa [Rp] using h
  | .loc l, _, h => by
    simp only [Rp] at h ⊢
    obtain ⟨a, e, r⟩ := h
    exact ⟨a, pre_get s.pre e, r⟩
  | .tup ds, _, h => by
    simp only [Rp] at h ⊢
    obtain ⟨a, vs, e, q, r⟩ := h
    exact ⟨a, vs, e, s.seqT q, RpL.mon s r⟩
theorem RpL.mon {G : Gx} {ρ ρ' : List Lo} {H H' : Hp} (s : Mon ρ H ρ' H') : ∀ {ds : List D} {vs : List V}, RpL G ρ H ds vs → RpL G ρ' H' ds vs
  | [], _, h => by simpa [RpL] using h
  | d :: ds, _, h => by
    simp only [RpL] at h ⊢
    obtain ⟨v, r, e, q, t⟩ := h
    exact ⟨v, r, e, Rp.mon s q, RpL.mon s t⟩
end
theorem RpK.mon {G : Gx} {ρ ρ' : List Lo} {H H' : Hp} (s : Mon ρ H ρ' H') : ∀ {ds : List (Key × D)} {vs : List (Key × V)}, RpK G ρ H ds vs → RpK G ρ' H' ds vs
  | [], _, h => by simpa [RpK] using h
  | d :: ds, _, h => by
    simp only [RpK] at h ⊢
    obtain ⟨v, r, e, q, t⟩ := h
    exact ⟨v, r, e, Rp.mon s q, RpK.mon s t⟩
theorem Rp.step {G : Gx} {ρ ρ' : List Lo} {H H' : Hp} {d : D} {v : V} (h : Rp G ρ H d v) (s : Step ρ H ρ' H') : Rp G ρ' H' d v := Rp.mon s.toMon h
theorem RpL.step {G : Gx} {ρ ρ' : List Lo} {H H' : Hp} {d : List D} {v : List V} (h : RpL G ρ H d v) (s : Step ρ H ρ' H') : RpL G ρ' H' d v := RpL.mon s.toMon h
theorem RpL.length {G : Gx} {ρ : List Lo} {H : Hp} : ∀ {ds : List D} {vs : List V}, RpL G ρ H ds vs → vs.length = ds.length
  | [], _, h => by simp only [RpL] at h; rw [h]; rfl
  | d :: ds, _, h => by
    simp only [RpL] at h
    obtain ⟨v, r, e, q, t⟩ := h
    rw [e, List.length_cons, RpL.length t, List.length_cons]
theorem RpL.get {G : Gx} {ρ : List Lo} {H : Hp} : ∀ {ds : List D} {vs : List V} {i : Nat} {d : D}, RpL G ρ H ds vs → ds[i]? = some d → ∃ v, vs[i]? = some v ∧ Rp G ρ H d v
  | [], _, _, _, _, e => by simp at e
  | d :: ds, _, 0, _, h, e => by
    simp only [RpL] at h
    obtain ⟨v, r, rfl, q, t⟩ := h
    simp at e; subst e
    exact ⟨v, rfl, q⟩
  | d :: ds, _, i + 1, _, h, e => by
    simp only [RpL] at h
    obtain ⟨v, r, rfl, q, t⟩ := h
    obtain ⟨w, h1, h2⟩ := RpL.get t (i := i) (by simpa using e)
    exact ⟨w, by simpa using h1, h2⟩
theorem RpL.append {G : Gx} {ρ : List Lo} {H : Hp} : ∀ {ds es : List D} {vs us : List V}, RpL G ρ H ds vs → RpL G ρ H es us → RpL G ρ H (ds ++ es) (vs ++ us)
  | [], _, _, _, h, h' => by simp only [RpL] at h; subst h; exact h'
  | d :: ds, _, _, _, h, h' => by
    simp only [RpL] at h
    obtain ⟨v, r, rfl, q, t⟩ := h
    show RpL G ρ H (d :: (ds ++ _)) _
    simp only [RpL]
    exact ⟨v, r ++ _, rfl, q, RpL.append t h'⟩
theorem RpL.one {G : Gx} {ρ : List Lo} {H : Hp} {d : D} {v : V} (h : Rp G ρ H d v) : RpL G ρ H [d] [v] := by
  simp only [RpL]; exact ⟨v, [], rfl, h, rfl⟩
theorem RpL.nil {G : Gx} {ρ : List Lo} {H : Hp} : RpL G ρ H [] [] := by simp only [RpL]
theorem RpL.cons {G : Gx} {ρ : List Lo} {H : Hp} {d : D} {v : V} {ds : List D} {vs : List V} (h : Rp G ρ H d v) (t : RpL G ρ H ds vs) : RpL G ρ H (d :: ds) (v :: vs) := by
  simp only [RpL]; exact ⟨v, vs, rfl, h, t⟩
theorem RpL.set {G : Gx} {ρ : List Lo} {H : Hp} {d : D} {v : V} (hv : Rp G ρ H d v) : ∀ {ds : List D} {vs : List V} (i : Nat), RpL G ρ H ds vs → RpL G ρ H (ds.set i d) (vs.set i v)
  | [], _, _, h => by simp only [RpL] at h; subst h; exact RpL.nil
  | e :: ds, _, 0, h => by
    simp only [RpL] at h
    obtain ⟨w, r, rfl, q, t⟩ := h
    exact RpL.cons hv t
  | e :: ds, _, i + 1, h => by
    simp only [RpL] at h
    obtain ⟨w, r, rfl, q, t⟩ := h
    exact RpL.cons q (RpL.set hv i t)
theorem RpL.take {G : Gx} {ρ : List Lo} {H : Hp} : ∀ {ds : List D} {vs : List V} (n : Nat), RpL G ρ H ds vs → RpL G ρ H (ds.take n) (vs.take n)
  | _, _, 0, h => by simp only [List.take_zero]; exact RpL.nil
  | [], _, _ + 1, h => by simp only [RpL] at h; subst h; exact RpL.nil
  | e :: ds, _, n + 1, h => by
    simp only [RpL] at h
    obtain ⟨w, r, rfl, q, t⟩ := h
    exact RpL.cons q (RpL.take n t)
theorem RpL.drop {G : Gx} {ρ : List Lo} {H : Hp} : ∀ {ds : List D} {vs : List V} (n : Nat), RpL G ρ H ds vs → RpL G ρ H (ds.drop n) (vs.drop n)
  | _, _, 0, h => h
  | [], _, _ + 1, h => by simp only [RpL] at h; subst h; exact RpL.nil
  | e :: ds, _, n + 1, h => by
    simp only [RpL] at h
    obtain ⟨w, r, rfl, q, t⟩ := h
    exact RpL.drop n t

section
variable {G : Gx} {ρ : List Lo} {H : Hp} {S : Sto}
theorem Mon.upd {p : Addr} {o : HO} (h : H p = none) : Mon ρ H ρ (upd H p o) :=
  ⟨List.prefix_refl _, fun a xs e => by rw [upd_ne (ne_of_none e h)]; exact e, fun a x u e => by rw [upd_ne (ne_of_none e h)]; exact e⟩
theorem Mon.ext {r : List Lo} : Mon ρ H (ρ ++ r) H := ⟨List.prefix_append _ _, fun _ _ e => e, fun _ _ _ e => e⟩
theorem Step.untracked {p : Addr} {o : HO} (h : H p = none) : Step ρ H ρ (upd H p o) :=
  ⟨Mon.upd h, fun _ h => .inl h, fun a x e _ => by rw [upd_ne (ne_of_none e h)]; exact e⟩
theorem Step.newloc {p : Addr} {o : HO} (h : H p = none) : Step ρ H (ρ ++ [(p, true)]) (upd H p o) :=
  ⟨⟨List.prefix_append _ _, (Mon.upd (ρ := ρ) h).tup, (Mon.upd (ρ := ρ) h).frz⟩, fun a ha => by
    rcases List.mem_append.mp ha with z | z
    · exact .inl z
    · have e : a = p := by simpa using z
      exact .inr (e ▸ h), fun a x e _ => by rw [upd_ne (ne_of_none e h)]; exact e⟩
/-- a place written: it is tracked as no tuple, nothing locked -/
theorem Step.write {a : Addr} {o u : HO} (ha : (a, true) ∈ ρ) (hm : H a = some u) (h1 : ∀ xs, u ≠ .tup xs) (h2 : ∀ x y, u ≠ .frz x y) : Step ρ H ρ (upd H a o) := by
  refine ⟨⟨List.prefix_refl _, fun b xs e => ?_, fun b x y e => ?_⟩, fun _ h => .inl h, fun b x e hb => ?_⟩
  · have : b ≠ a := by rintro rfl; rw [hm] at e; exact h1 _ (Option.some.inj e)
    rw [upd_ne this]; exact e
  · have : b ≠ a := by rintro rfl; rw [hm] at e; exact h2 _ _ (Option.some.inj e)
    rw [upd_ne this]; exact e
  · have : b ≠ a := by rintro rfl; exact hb ha
    rw [upd_ne this]; exact e
/-- an object moved over a step that leaves its own place -/
theorem ObR.over {ρ' : List Lo} {H' : Hp} {a : Addr} (s : Mon ρ H ρ' H') : ∀ {o : Ob}, (o.mu = true → ∀ x, H a = some x → H' a = some x) → ObR G ρ H a o → ObR G ρ' H' a o
  | .lst ds, hm, ⟨vs, e, r⟩ => ⟨vs, hm rfl _ e, RpL.mon s r⟩
  | .rol ds, _, ⟨vs, e, r⟩ => ⟨vs, by
      rcases e with ⟨w, e⟩ | e
      · exact .inl ⟨w, s.frz _ _ _ e⟩
      · exact .inr e, RpL.mon s r⟩
  | .dk kvs, hm, ⟨ws, e, r⟩ => ⟨ws, hm rfl _ e, RpK.mon s r⟩
theorem SR.get (h : SR G ρ H S) {l : Nat} {o : Ob} (e : S[l]? = some o) : ∃ a, ρ[l]? = some a ∧ ObR G ρ H a.1 o ∧ o.mu = a.2 := by
  have hl : l < ρ.length := by rw [h.len]; exact (List.getElem?_eq_some_iff.mp e).1
  exact ⟨ρ[l], List.getElem?_eq_getElem hl, h.obj l o _ e (List.getElem?_eq_getElem hl), h.mu l o _ e (List.getElem?_eq_getElem hl)⟩
/-- an untracked new object -/
theorem SR.untracked (h : SR G ρ H S) {p : Addr} {o : HO} (hp : H p = none) : SR G ρ (upd H p o) S :=
  ⟨h.len, fun l ob a e e' => ObR.over (Mon.upd hp) (fun _ x hx => by rw [upd_ne (ne_of_none hx hp)]; exact hx) (h.obj l ob a e e'), h.mu, h.inj⟩
theorem ob_none {a : Addr} {o : Ob} (h : ObR G ρ H a o) (m : o.mu = true) : ∃ u, H a = some u := by
  cases o with
  | lst ds => obtain ⟨vs, e, _⟩ := h; exact ⟨_, e⟩
  | rol ds => cases m
  | dk kvs => obtain ⟨vs, e, _⟩ := h; exact ⟨_, e⟩
/-- a written place is tracked -/
theorem SR.there (h : SR G ρ H S) {a : Addr} (m : (a, true) ∈ ρ) : ∃ u, H a = some u := by
  obtain ⟨l, hl, e⟩ := List.getElem_of_mem m
  have e1 : ρ[l]? = some (a, true) := by rw [List.getElem?_eq_getElem hl, e]
  have hS : l < S.length := by rw [← h.len]; exact hl
  have e2 := List.getElem?_eq_getElem hS
  exact ob_none (h.obj l _ _ e2 e1) (h.mu l _ _ e2 e1)
theorem SR.fresh (h : SR G ρ H S) {p : Addr} (hp : H p = none) : (p, true) ∉ ρ := fun m => by
  obtain ⟨u, e⟩ := h.there m
  rw [hp] at e; cases e
/-- a place of its own for what is tracked already -/
theorem SR.own (h : SR G ρ H S) {p : Addr} {ob : Ob} (hp : (p, true) ∉ ρ) (m : ob.mu = true) (hob : ObR G (ρ ++ [(p, true)]) H p ob) : SR G (ρ ++ [(p, true)]) H (S ++ [ob]) := by
  have back : ∀ {k : Nat} {x : Lo}, (ρ ++ [(p, true)])[k]? = some x → (k < S.length ∧ ρ[k]? = some x) ∨ (k = S.length ∧ x = (p, true)) := by
    intro k x r
    by_cases hl : k < S.length
    · rw [List.getElem?_append_left (by rw [h.len]; exact hl)] at r
      exact .inl ⟨hl, r⟩
    · have hl2 : k = S.length := by
        have := (List.getElem?_eq_some_iff.mp r).1
        simp [h.len] at this; omega
      refine .inr ⟨hl2, ?_⟩
      subst hl2
      rw [← h.len] at r
      simp at r
      exact r.symm
  have fwd : ∀ {k : Nat} {oo : Ob}, (S ++ [ob])[k]? = some oo → (k < S.length ∧ S[k]? = some oo) ∨ (k = S.length ∧ oo = ob) := by
    intro k oo e
    by_cases hl : k < S.length
    · rw [List.getElem?_append_left hl] at e; exact .inl ⟨hl, e⟩
    · have hl2 : k = S.length := by
        have := (List.getElem?_eq_some_iff.mp e).1
        simp at this; omega
      subst hl2
      simp at e
      exact .inr ⟨rfl, e.symm⟩
  refine ⟨by simp [h.len], fun l oo a e e' => ?_, fun l oo a e e' => ?_, fun l l' a r1 r2 => ?_⟩
  · rcases fwd e with ⟨a1, a2⟩ | ⟨a1, a2⟩ <;> rcases back e' with ⟨b1, b2⟩ | ⟨b1, b2⟩
    · exact ObR.over Mon.ext (fun _ x hx => hx) (h.obj l oo a a2 b2)
    · omega
    · omega
    · subst a2 b2; exact hob
  · rcases fwd e with ⟨a1, a2⟩ | ⟨a1, a2⟩ <;> rcases back e' with ⟨b1, b2⟩ | ⟨b1, b2⟩
    · exact h.mu l oo a a2 b2
    · omega
    · omega
    · subst a2 b2; exact m
  · rcases back r1 with ⟨a1, a2⟩ | ⟨a1, a2⟩ <;> rcases back r2 with ⟨b1, b2⟩ | ⟨b1, b2⟩
    · exact h.inj l l' a a2 b2
    · cases b2; exact absurd (List.mem_of_getElem? a2) hp
    · cases a2; exact absurd (List.mem_of_getElem? b2) hp
    · omega
theorem SR.new (h : SR G ρ H S) {p : Addr} {o : HO} {ob : Ob} (hp : H p = none) (m : ob.mu = true) (hob : ObR G (ρ ++ [(p, true)]) (upd H p o) p ob) : SR G (ρ ++ [(p, true)]) (upd H p o) (S ++ [ob]) :=
  SR.own (h.untracked hp) (h.fresh hp) m hob
/-- an object is written -/
theorem SR.write (h : SR G ρ H S) {l : Nat} {a : Addr} {o u : HO} {ob' : Ob} (r : ρ[l]? = some (a, true)) (hu : H a = some u) (h1 : ∀ xs, u ≠ .tup xs) (h2 : ∀ x y, u ≠ .frz x y)
    (m' : ob'.mu = true) (hob : ObR G ρ (upd H a o) a ob') : SR G ρ (upd H a o) (S.set l ob') := by
  have st : Step ρ H ρ (upd H a o) := Step.write (List.mem_of_getElem? r) hu h1 h2
  have hl : l < S.length := by rw [← h.len]; exact (List.getElem?_eq_some_iff.mp r).1
  refine ⟨by simp [h.len], fun k oo b e1 r1 => ?_, fun k oo b e1 r1 => ?_, h.inj⟩
  · by_cases hk : k = l
    · subst hk
      rw [List.getElem?_set_self hl] at e1
      cases e1
      rw [r] at r1; cases r1
      exact hob
    · rw [List.getElem?_set_ne (Ne.symm hk)] at e1
      refine ObR.over st.toMon (fun hm x hx => ?_) (h.obj k oo b e1 r1)
      have : b.1 ≠ a := by
        intro e
        have hb := h.mu k oo b e1 r1
        rw [hm] at hb
        exact hk (h.inj k l a (by rw [r1]; exact congrArg some (Prod.ext e hb.symm)) r)
      rw [upd_ne this]; exact hx
  · by_cases hk : k = l
    · subst hk
      rw [List.getElem?_set_self hl] at e1
      cases e1
      rw [r] at r1; cases r1
      exact m'
    · rw [List.getElem?_set_ne (Ne.symm hk)] at e1
      exact h.mu k oo b e1 r1
end
end ML

namespace ML
open PySem PySem.Spec PyProof.Rows L2

abbrev En := List (Option D)
abbrev Den := En → Sto → Option (D × Sto)
abbrev TDen := En → Sto → Option (Bool × Sto)
abbrev ADen := En → Sto → Option (List D × Sto)
abbrev Op1 := D → Sto → Option (D × Sto)
abbrev Op2 := D → D → Sto → Option (D × Sto)
abbrev Fn := List D → Sto → Option (D × Sto)

structure EnR (G : Gx) (ρ : List Lo) (H : Hp) (env : En) (σ : L2.St) : Prop where
  len : env.length = σ.length
  at_ : ∀ (i : Nat) (d : D), env[i]? = some (some d) → ∃ v, σ[i]? = some (some v) ∧ Rp G ρ H d v
theorem EnR.step {G : Gx} {ρ ρ' : List Lo} {H H' : Hp} {env : En} {σ : L2.St} (h : EnR G ρ H env σ) (s : Step ρ H ρ' H') : EnR G ρ' H' env σ :=
  ⟨h.len, fun i d e => let ⟨v, a, b⟩ := h.at_ i d e; ⟨v, a, b.step s⟩⟩
theorem EnR.set {G : Gx} {ρ : List Lo} {H : Hp} {env : En} {σ : L2.St} (h : EnR G ρ H env σ) {d : D} {v : V} (r : Rp G ρ H d v) (i : Nat) : EnR G ρ H (env.set i (some d)) (σ.set i (some v)) := by
  refine ⟨by simpa using h.len, fun j e q => ?_⟩
  by_cases hj : i = j
  · subst hj
    have hi : i < env.length := by
      have := (List.getElem?_eq_some_iff.mp q).1
      simpa using this
    rw [List.getElem?_set_self hi] at q
    cases q
    exact ⟨v, by rw [List.getElem?_set_self (by rw [← h.len]; exact hi)], r⟩
  · rw [List.getElem?_set_ne hj] at q ⊢
    exact h.at_ j e q
theorem EnR.wipe {G : Gx} {ρ : List Lo} {H : Hp} {env : En} {σ : L2.St} (h : EnR G ρ H env σ) {env' : En} {σ' : L2.St} (hl : env'.length = σ'.length) (he : ∀ (i : Nat) d, env'[i]? = some (some d) → env[i]? = some (some d) ∧ σ'[i]? = σ[i]?) : EnR G ρ H env' σ' :=
  ⟨hl, fun i d e => let ⟨a, b⟩ := he i d e; let ⟨v, x, y⟩ := h.at_ i d a; ⟨v, by rw [b]; exact x, y⟩⟩

def tE (G : Gx) (f : Den) : TE := fun σ H Q => ∃ ρ env S d S', EnR G ρ H env σ ∧ SR G ρ H S ∧ f env S = some (d, S') ∧ ∀ ρ' v H', Step ρ H ρ' H' → SR G ρ' H' S' → Rp G ρ' H' d v → Q v H'
def tT (G : Gx) (f : TDen) : TT := fun σ H Q => ∃ ρ env S b S', EnR G ρ H env σ ∧ SR G ρ H S ∧ f env S = some (b, S') ∧ ∀ ρ' H', Step ρ H ρ' H' → SR G ρ' H' S' → Q b H'
def tA (G : Gx) (f : ADen) : TA := fun σ H Q => ∃ ρ env S ds S', EnR G ρ H env σ ∧ SR G ρ H S ∧ f env S = some (ds, S') ∧ ∀ ρ' vs H', Step ρ H ρ' H' → SR G ρ' H' S' → RpL G ρ' H' ds vs → Q vs H'
structure ME (X : Cx) (e : Expr) (f : Den) : Prop where
  pe : PE X e (tE (gx X) f)
structure MT (X : Cx) (e : Expr) (f : TDen) : Prop where
  pt : PT X e (tT (gx X) f)
/-- a test whatever its whole is (and, or) -/
structure MW (X : Cx) (e : Expr) (f : TDen) : Prop where
  pw : PW X e (tT (gx X) f)
structure MA (X : Cx) (es : List Expr) (f : ADen) : Prop where
  pa : PA X es (tA (gx X) f)
theorem PE.weak {X : Cx} {e : Expr} {t t' : TE} (h : PE X e t) (hw : ∀ σ H Q, t' σ H Q → t σ H Q) : PE X e t' := ⟨fun pins s σ H Q I q => h.run pins s σ H Q I (hw σ H Q q)⟩
theorem PT.weak {X : Cx} {e : Expr} {t t' : TT} (h : PT X e t) (hw : ∀ σ H Q, t' σ H Q → t σ H Q) : PT X e t' := ⟨fun pins s σ H Q I q => h.run pins s σ H Q I (hw σ H Q q)⟩
theorem PW.weak {X : Cx} {e : Expr} {t t' : TT} (h : PW X e t) (hw : ∀ σ H Q, t' σ H Q → t σ H Q) : PW X e t' := ⟨fun wh pins s σ H Q I q => h.run wh pins s σ H Q I (hw σ H Q q)⟩
theorem PA.weak {X : Cx} {e : List Expr} {t t' : TA} (h : PA X e t) (hw : ∀ σ H Q, t' σ H Q → t σ H Q) : PA X e t' := ⟨fun pos pins s σ H Q I q => h.run pos pins s σ H Q I (hw σ H Q q)⟩

section
variable {G : Gx} {f g : Den} {σ : L2.St} {H : Hp}
theorem tE.mono {Q Q' : VK} (h : tE G f σ H Q) (q : ∀ v H', Q v H' → Q' v H') : tE G f σ H Q' := by
  obtain ⟨ρ, env, S, d, S', a, b, c, k⟩ := h
  exact ⟨ρ, env, S, d, S', a, b, c, fun ρ' v H' x y z => q _ _ (k ρ' v H' x y z)⟩
/-- from one part on to the rest -/
theorem tE.bind {ρ : List Lo} {env : En} {S S1 : Sto} {d : D} {R : VK} (he : EnR G ρ H env σ) (hs : SR G ρ H S) (h : f env S = some (d, S1))
    (k : ∀ ρ' v H', Step ρ H ρ' H' → EnR G ρ' H' env σ → SR G ρ' H' S1 → Rp G ρ' H' d v → R v H') : tE G f σ H R :=
  ⟨ρ, env, S, d, S1, he, hs, h, fun ρ' v H' x y z => k ρ' v H' x (he.step x) y z⟩
end
theorem bind2 {α β γ : Type} {o : Option (α × β)} {k : α × β → Option γ} {r : γ} (h : o.bind k = some r) : ∃ x y, o = some (x, y) ∧ k (x, y) = some r := by
  obtain ⟨⟨x, y⟩, a, b⟩ := Option.bind_eq_some_iff.mp h
  exact ⟨x, y, a, b⟩

/-! ### names and constants -/
def eVar (i : Nat) : Den := fun env S => match env[i]? with
  | some (some d) => some (d, S)
  | _ => none
def eC (d : D) : Den := fun _ S => some (d, S)
section
variable {X : Cx} {pos p : Pos}
theorem me_var (i : Nat) {x : Str} (hN : X.N[i]? = some x := by rfl) (hv : Vis X.env.scope x := by first | exact Or.inl rfl | exact Or.inr (Or.inl rfl) | exact Or.inr (Or.inr rfl)) (hd : (x == ("__debug__" : Str)) = false := by decide)
    (hcd : (x == ("__classdict__" : Str)) = false := by decide) : ME X (.Name x pos) (eVar i) := by
  refine ⟨PE.weak (pe_var hN hv hd hcd) fun σ H Q h => ?_⟩
  obtain ⟨ρ, env, S, d, S', a, b, c, k⟩ := h
  unfold eVar at c
  split at c
  · rename_i d' e
    cases c
    obtain ⟨v, e1, r⟩ := a.at_ i _ e
    exact ⟨v, e1, k ρ v H (Step.refl _ _) b r⟩
  · cases c
theorem me_const {e : Expr} {v : V} {d : D} (h : PE X e (tC v)) (r : ∀ G ρ H, Rp G ρ H d v) : ME X e (eC d) := by
  refine ⟨PE.weak h fun σ H Q h => ?_⟩
  obtain ⟨ρ, env, S, d', S', a, b, c, k⟩ := h
  cases c
  exact k ρ v H (Step.refl _ _) b (r _ _ _)
theorem me_int {i j} : ME X (.Constant (.int i) j pos) (eC (.int i)) := me_const pe_int fun _ _ _ => by simp [Rp]
theorem me_bl {b j} : ME X (.Constant (.bool b) j pos) (eC (.bl b)) := me_const pe_bl fun _ _ _ => by simp [Rp]
theorem me_non {j} : ME X (.Constant .none j pos) (eC .non) := me_const pe_non fun _ _ _ => by simp [Rp]
/-- a name of the module -/
theorem me_glob {x : Str} {d : D} {v : V} {u : Value} (hg : Gl X x) (hm : X.mg x = some u) (r : RelV v u) (hr : ∀ ρ H, Rp (gx X) ρ H d v) (hd : (x == ("__debug__" : Str)) = false := by decide) : ME X (.Name x pos) (eC d) := by
  refine ⟨PE.weak (pe_glob hg hm r hd) fun σ H Q h => ?_⟩
  obtain ⟨ρ, env, S, d', S', a, b, c, k⟩ := h
  cases c
  exact k ρ v H (Step.refl _ _) b (hr _ _)
/-- the name of a built-in class -/
theorem me_ty {x : Str} {n : String} (hg : Gl X x) (hm : X.mg x = none) (hv : bootBuiltins x = some (.type n)) (hn : x ≠ "__name__" := by decide) (hd : (x == ("__debug__" : Str)) = false := by decide) : ME X (.Name x pos) (eC (.ty n)) := by
  refine ⟨PE.weak (pe_bltn (v := .ty n) hg hm hv rfl hn hd) fun σ H Q h => ?_⟩
  obtain ⟨ρ, env, S, d', S', a, b, c, k⟩ := h
  cases c
  exact k ρ (.ty n) H (Step.refl _ _) b (by simp [Rp])
end

/-! ### operations -/
def rD (G : Gx) (g : Op2) : R2 := fun x y H Q => ∃ ρ S d1 d2 d S', SR G ρ H S ∧ Rp G ρ H d1 x ∧ Rp G ρ H d2 y ∧ g d1 d2 S = some (d, S') ∧ ∀ ρ' v H', Step ρ H ρ' H' → SR G ρ' H' S' → Rp G ρ' H' d v → Q v H'
def rU1 (G : Gx) (g : Op1) : V → Hp → VK → Prop := fun x H Q => ∃ ρ S d1 d S', SR G ρ H S ∧ Rp G ρ H d1 x ∧ g d1 S = some (d, S') ∧ ∀ ρ' v H', Step ρ H ρ' H' → SR G ρ' H' S' → Rp G ρ' H' d v → Q v H'
def rC (G : Gx) (g : Fn) : List V → Hp → VK → Prop := fun xs H Q => ∃ ρ S ds d S', SR G ρ H S ∧ RpL G ρ H ds xs ∧ g ds S = some (d, S') ∧ ∀ ρ' v H', Step ρ H ρ' H' → SR G ρ' H' S' → Rp G ρ' H' d v → Q v H'
def eOp (g : Op2) (fa fb : Den) : Den := fun env S => (fa env S).bind fun p => (fb env p.2).bind fun q => g p.1 q.1 q.2
def eUn (g : Op1) (fa : Den) : Den := fun env S => (fa env S).bind fun p => g p.1 p.2
abbrev Imp2 (G : Gx) (g : Op2) (r : R2) : Prop := ∀ x y H Q, rD G g x y H Q → r x y H Q
abbrev ImpC (G : Gx) (g : Fn) (r : List V → Hp → VK → Prop) : Prop := ∀ xs H Q, rC G g xs H Q → r xs H Q
theorem bin_imp {G : Gx} {g : Op2} {r : R2} (hi : Imp2 G g r) {fa fb : Den} {σ : L2.St} {H : Hp} {Q : VK} (h : tE G (eOp g fa fb) σ H Q) : tOp r (tE G fa) (tE G fb) σ H Q := by
  obtain ⟨ρ, env, S, d, S', he, hs, hf, q⟩ := h
  obtain ⟨x, S1, h1, hf⟩ := bind2 hf
  obtain ⟨y, S2, h2, hg⟩ := bind2 hf
  refine tE.bind he hs h1 fun ρ1 v1 H1 st1 he1 sr1 r1 => ?_
  refine tE.bind he1 sr1 h2 fun ρ2 v2 H2 st2 he2 sr2 r2 => ?_
  exact hi _ _ _ _ ⟨ρ2, S2, x, y, d, S', sr2, r1.step st2, r2, hg, fun ρ' v H' st sr rr => q ρ' v H' ((st1.trans st2).trans st) sr rr⟩
theorem un_imp {G : Gx} {g : Op1} {r : V → Hp → VK → Prop} (hi : ∀ x H Q, rU1 G g x H Q → r x H Q) {fa : Den} {σ : L2.St} {H : Hp} {Q : VK} (h : tE G (eUn g fa) σ H Q) : tUn r (tE G fa) σ H Q := by
  obtain ⟨ρ, env, S, d, S', he, hs, hf, q⟩ := h
  obtain ⟨x, S1, h1, hg⟩ := bind2 hf
  refine tE.bind he hs h1 fun ρ1 v1 H1 st1 he1 sr1 r1 => ?_
  exact hi _ _ _ ⟨ρ1, S1, x, d, S', sr1, r1, hg, fun ρ' v H' st sr rr => q ρ' v H' (st1.trans st) sr rr⟩
section
variable {X : Cx} {a b c : Expr} {fa fb fc : Den} {pos : Pos}
theorem me_op {op : Operator} {g : Op2} {r : R2} (ho : OpR X (binaryOp op) r) (hi : Imp2 (gx X) g r) (ha : ME X a fa) (hb : ME X b fb) : ME X (.BinOp a op b pos) (eOp g fa fb) :=
  ⟨PE.weak (pe_op ho ha.pe hb.pe) fun _ _ _ h => bin_imp hi h⟩
theorem me_un {op : UnaryOp} {g : Op1} {r : V → Hp → VK → Prop} (ho : UnR X (unaryOp op) r) (hi : ∀ x H Q, rU1 (gx X) g x H Q → r x H Q) (ha : ME X a fa) : ME X (.UnaryOp op a pos) (eUn g fa) :=
  ⟨PE.weak (pe_un ho ha.pe) fun _ _ _ h => un_imp hi h⟩
theorem me_cmp {op : CmpOp} {g : Op2} {r : R2} (ho : OpR X (compareOp op) r) (hi : Imp2 (gx X) g r) (ha : ME X a fa) (hb : ME X b fb) (hm : behindInMarks op b = false := by first | exact nomark _ | rfl) : ME X (.Compare a [op] [b] pos) (eOp g fa fb) :=
  ⟨PE.weak (pe_cmpR ho ha.pe hb.pe hm) fun _ _ _ h => bin_imp hi h⟩
end
end ML

namespace ML
open PySem PySem.Spec PyProof.Rows L2

/-! ### truth -/
/-- the items of a list's place, in either kind -/
def Ob.xs? : Ob → Option (List D)
  | .lst xs => some xs
  | .rol xs => some xs
  | _ => none
def lsAt (S : Sto) (l : Nat) : Option (List D) := S[l]?.bind Ob.xs?
theorem lsAt_of {G : Gx} {ρ : List Lo} {H : Hp} {S : Sto} (h : SR G ρ H S) {l : Nat} {xs : List D} (e : lsAt S l = some xs) : ∃ a vs, ρ[l]? = some a ∧ SqL G.K H a.1 vs ∧ RpL G ρ H xs vs := by
  obtain ⟨o, e1, e2⟩ := Option.bind_eq_some_iff.mp e
  obtain ⟨a, r, ob, _⟩ := h.get e1
  cases o with
  | lst ys => cases e2; obtain ⟨vs, q, rr⟩ := ob; exact ⟨a, vs, r, .inl (.inl q), rr⟩
  | rol ys => cases e2; obtain ⟨vs, q, rr⟩ := ob; exact ⟨a, vs, r, q.sq, rr⟩
  | dk _ => cases e2
def truD : D → Sto → Option Bool
  | .non, _ => some false
  | .bl b, _ => some b
  | .int i, _ => some (i != 0)
  | .str x, _ => if x.length ≤ sizeLine then some ((x.length : Int) != 0) else none
  | .tup xs, _ => some (!xs.isEmpty)
  | .loc l, S => match S[l]? with
    | some (.lst xs) => some (!xs.isEmpty)
    | some (.rol xs) => some (!xs.isEmpty)
    | some (.dk kvs) => some (!kvs.isEmpty)
    | none => none
  | _, _ => none
theorem isEmpty_L {G : Gx} {ρ : List Lo} {H : Hp} {ds : List D} {vs : List V} (h : RpL G ρ H ds vs) : ds.isEmpty = vs.isEmpty := by
  cases ds with
  | nil => simp only [RpL] at h; subst h; rfl
  | cons d r => simp only [RpL] at h; obtain ⟨v, q, rfl, _⟩ := h; rfl
theorem isEmpty_K {G : Gx} {ρ : List Lo} {H : Hp} {ds : List (Key × D)} {vs : List (Key × V)} (h : RpK G ρ H ds vs) : ds.isEmpty = vs.isEmpty := by
  cases ds with
  | nil => simp only [RpK] at h; subst h; rfl
  | cons d r => simp only [RpK] at h; obtain ⟨v, q, rfl, _⟩ := h; rfl
theorem truD_ok {G : Gx} {ρ : List Lo} {H : Hp} {S : Sto} (h : SR G ρ H S) {d : D} {v : V} {k : Bool} (r : Rp G ρ H d v) (e : truD d S = some k) : TruV G.K v H k := by
  cases d with
  | non => simp only [Rp] at r; subst r; cases e; rfl
  | bl b => simp only [Rp] at r; subst r; cases e; rfl
  | int i => simp only [Rp] at r; subst r; cases e; rfl
  | str x =>
    simp only [Rp] at r; subst r
    simp only [truD] at e
    by_cases h1 : x.length ≤ sizeLine
    · rw [if_pos h1] at e; cases e; exact ⟨h1, rfl⟩
    · rw [if_neg h1] at e; cases e
  | tup xs =>
    simp only [Rp] at r
    obtain ⟨a, vs, rfl, q, rr⟩ := r
    cases e
    exact .inr (.inl ⟨vs, q, by rw [isEmpty_L rr]⟩)
  | loc l =>
    simp only [Rp] at r
    obtain ⟨a, hr, rfl⟩ := r
    simp only [truD] at e
    split at e
    · rename_i xs e1; cases e
      obtain ⟨vs, q, rr⟩ := h.obj _ _ _ e1 hr
      exact .inl ⟨vs, .inl (.inl q), by rw [isEmpty_L rr]⟩
    · rename_i xs e1; cases e
      obtain ⟨vs, q, rr⟩ := h.obj _ _ _ e1 hr
      exact .inl ⟨vs, q.sq, by rw [isEmpty_L rr]⟩
    · rename_i xs e1; cases e
      obtain ⟨vs, q, rr⟩ := h.obj _ _ _ e1 hr
      exact .inr (.inr ⟨vs, q, by rw [isEmpty_K rr]⟩)
    · cases e
  | ty n => cases e
  | fn x => cases e

/-! ### tests -/
def tTru (f : Den) : TDen := fun env S => (f env S).bind fun p => (truD p.1 p.2).map fun k => (k, p.2)
def asB (f : Den) : TDen := fun env S => (f env S).bind fun p => match p.1 with
  | .bl b => some (b, p.2)
  | _ => none
def tAnd (f g : TDen) : TDen := fun env S => (f env S).bind fun p => if p.1 = true then g env p.2 else some (false, p.2)
def tOr (f g : TDen) : TDen := fun env S => (f env S).bind fun p => if p.1 = true then some (true, p.2) else g env p.2
def tNot (f : TDen) : TDen := fun env S => (f env S).bind fun p => some (!p.1, p.2)
theorem tT.bind {G : Gx} {f : TDen} {σ : L2.St} {H : Hp} {ρ : List Lo} {env : En} {S S1 : Sto} {b : Bool} {R : Bool → Hp → Prop} (he : EnR G ρ H env σ) (hs : SR G ρ H S) (h : f env S = some (b, S1))
    (k : ∀ ρ' H', Step ρ H ρ' H' → EnR G ρ' H' env σ → SR G ρ' H' S1 → R b H') : tT G f σ H R :=
  ⟨ρ, env, S, b, S1, he, hs, h, fun ρ' H' x y => k ρ' H' x (he.step x) y⟩
section
variable {X : Cx} {a b c : Expr} {fa fb fc : Den} {ta tb : TDen} {rest : List Expr} {pos : Pos}
theorem mt_val (ha : ME X a fa) (he : ∀ whole, isTrue a X.env whole = (do let v ← whole; standAt a.pos; holding [v] (truthy v)) := by intro _; rfl) : MT X a (tTru fa) := by
  refine ⟨PT.weak (pt_truth ha.pe he) fun σ H Q h => ?_⟩
  obtain ⟨ρ, env, S, k, S', he, hs, hf, q⟩ := h
  obtain ⟨x, S1, h1, h2⟩ := bind2 hf
  obtain ⟨k', h3, h4⟩ := Option.map_eq_some_iff.mp h2
  cases h4
  refine tE.bind he hs h1 fun ρ1 v1 H1 st1 he1 sr1 r1 => ?_
  exact ⟨k, truD_ok sr1 r1 h3, q ρ1 H1 st1 sr1⟩
theorem rp_bl {G : Gx} {ρ : List Lo} {H : Hp} {b : Bool} {v : V} (h : Rp G ρ H (.bl b) v) : v = .bl b := by simpa only [Rp] using h
theorem rp_int {G : Gx} {ρ : List Lo} {H : Hp} {b : Int} {v : V} (h : Rp G ρ H (.int b) v) : v = .int b := by simpa only [Rp] using h
theorem rp_str {G : Gx} {ρ : List Lo} {H : Hp} {b : Str} {v : V} (h : Rp G ρ H (.str b) v) : v = .str b := by simpa only [Rp] using h
theorem rp_non {G : Gx} {ρ : List Lo} {H : Hp} {v : V} (h : Rp G ρ H .non v) : v = .non := by simpa only [Rp] using h
theorem rp_of_bl {G : Gx} {ρ : List Lo} {H : Hp} (b : Bool) : Rp G ρ H (.bl b) (.bl b) := by simp only [Rp]
theorem rp_of_int {G : Gx} {ρ : List Lo} {H : Hp} (b : Int) : Rp G ρ H (.int b) (.int b) := by simp only [Rp]
theorem rp_of_str {G : Gx} {ρ : List Lo} {H : Hp} (b : Str) : Rp G ρ H (.str b) (.str b) := by simp only [Rp]
theorem rp_of_non {G : Gx} {ρ : List Lo} {H : Hp} : Rp G ρ H .non .non := by simp only [Rp]
theorem asB_some {f : Den} {env : En} {S S' : Sto} {k : Bool} (h : asB f env S = some (k, S')) : f env S = some (.bl k, S') := by
  obtain ⟨x, S1, h1, h2⟩ := bind2 h
  cases x <;> first | cases h2 | skip
  exact h1
theorem mt_cmp {op : CmpOp} {g : Op2} {r : R2} (ho : OpR X (compareOp op) r) (hi : Imp2 (gx X) g r) (ha : ME X a fa) (hb : ME X b fb) (hm : behindInMarks op b = false := by first | exact nomark _ | rfl) : MT X (.Compare a [op] [b] pos) (asB (eOp g fa fb)) := by
  refine ⟨PT.weak (pt_cmpR ho ha.pe hb.pe hm) fun σ H Q h => ?_⟩
  obtain ⟨ρ, env, S, k, S', he, hs, hf, q⟩ := h
  refine bin_imp hi ⟨ρ, env, S, .bl k, S', he, hs, asB_some hf, fun ρ' v H' st sr rr => ⟨k, rp_bl rr, q ρ' H' st sr⟩⟩
theorem mt_not (ha : MT X a ta) : MT X (.UnaryOp .Not a pos) (tNot ta) := by
  refine ⟨PT.weak (pt_not ha.pt) fun σ H Q h => ?_⟩
  obtain ⟨ρ, env, S, k, S', he, hs, hf, q⟩ := h
  obtain ⟨x, S1, h1, h2⟩ := bind2 hf
  cases h2
  exact tT.bind he hs h1 fun ρ1 H1 st1 he1 sr1 => q ρ1 H1 st1 sr1
theorem mw_or1 (ha : MT X a ta) : MW X (.BoolOp .Or [a] pos) ta := ⟨pw_or1 ha.pt⟩
theorem mw_or (ha : MT X a ta) (hb : MW X (.BoolOp .Or (b :: rest) pos) tb) : MW X (.BoolOp .Or (a :: b :: rest) pos) (tOr ta tb) := by
  refine ⟨PW.weak (pw_or ha.pt hb.pw) fun σ H Q h => ?_⟩
  obtain ⟨ρ, env, S, k, S', he, hs, hf, q⟩ := h
  obtain ⟨x, S1, h1, h2⟩ := bind2 hf
  refine tT.bind he hs h1 fun ρ1 H1 st1 he1 sr1 => ?_
  cases x with
  | false => exact tT.bind he1 sr1 h2 fun ρ2 H2 st2 he2 sr2 => q ρ2 H2 (st1.trans st2) sr2
  | true => cases h2; exact q ρ1 H1 st1 sr1
theorem mt_bool {op : BoolOp} {es : List Expr} (h : MW X (.BoolOp op es pos) ta) : MT X (.BoolOp op es pos) ta := ⟨h.pw.pt⟩
/-! values -/
def eAnd (f g : Den) : Den := fun env S => (f env S).bind fun p => (truD p.1 p.2).bind fun k => if k = true then g env p.2 else some p
def eOr (f g : Den) : Den := fun env S => (f env S).bind fun p => (truD p.1 p.2).bind fun k => if k = true then some p else g env p.2
def eNot (f : Den) : Den := fun env S => (f env S).bind fun p => (truD p.1 p.2).bind fun k => some (.bl (!k), p.2)
def eIf (t : TDen) (f g : Den) : Den := fun env S => (t env S).bind fun p => if p.1 = true then f env p.2 else g env p.2
theorem me_one {op : BoolOp} (h : ME X a fa) : ME X (.BoolOp op [a] pos) fa := ⟨pe_one h.pe⟩
theorem me_and (ha : ME X a fa) (hb : ME X (.BoolOp .And (b :: rest) pos) fb) : ME X (.BoolOp .And (a :: b :: rest) pos) (eAnd fa fb) := by
  refine ⟨PE.weak (pe_andT ha.pe hb.pe) fun σ H Q h => ?_⟩
  obtain ⟨ρ, env, S, k, S', he, hs, hf, q⟩ := h
  obtain ⟨x, S1, h1, h2⟩ := bind2 hf
  obtain ⟨t, h3, h4⟩ := Option.bind_eq_some_iff.mp h2
  refine tE.bind he hs h1 fun ρ1 v1 H1 st1 he1 sr1 r1 => ⟨t, truD_ok sr1 r1 h3, ?_⟩
  cases t with
  | true => exact tE.bind he1 sr1 h4 fun ρ2 v2 H2 st2 he2 sr2 r2 => q ρ2 v2 H2 (st1.trans st2) sr2 r2
  | false => cases h4; exact q ρ1 v1 H1 st1 sr1 r1
theorem me_not (ha : ME X a fa) : ME X (.UnaryOp .Not a pos) (eNot fa) := by
  refine ⟨PE.weak (pe_notT ha.pe) fun σ H Q h => ?_⟩
  obtain ⟨ρ, env, S, k, S', he, hs, hf, q⟩ := h
  obtain ⟨x, S1, h1, h2⟩ := bind2 hf
  obtain ⟨t, h3, h4⟩ := Option.bind_eq_some_iff.mp h2
  cases h4
  exact tE.bind he hs h1 fun ρ1 v1 H1 st1 he1 sr1 r1 => ⟨t, truD_ok sr1 r1 h3, q ρ1 _ H1 st1 sr1 (rp_of_bl _)⟩
end

/-! ### arguments, displays, calls -/
def aNil : ADen := fun _ S => some ([], S)
def aCons (f : Den) (g : ADen) : ADen := fun env S => (f env S).bind fun p => (g env p.2).bind fun q => some (p.1 :: q.1, q.2)
theorem tA.bind {G : Gx} {f : ADen} {σ : L2.St} {H : Hp} {ρ : List Lo} {env : En} {S S1 : Sto} {b : List D} {R : List V → Hp → Prop} (he : EnR G ρ H env σ) (hs : SR G ρ H S) (h : f env S = some (b, S1))
    (k : ∀ ρ' vs H', Step ρ H ρ' H' → EnR G ρ' H' env σ → SR G ρ' H' S1 → RpL G ρ' H' b vs → R vs H') : tA G f σ H R :=
  ⟨ρ, env, S, b, S1, he, hs, h, fun ρ' vs H' x y z => k ρ' vs H' x (he.step x) y z⟩
section
variable {X : Cx} {e : Expr} {es : List Expr} {fe : Den} {fs : ADen} {pos : Pos}
theorem ma_nil : MA X [] aNil := by
  refine ⟨PA.weak pa_nil fun σ H Q h => ?_⟩
  obtain ⟨ρ, env, S, k, S', he, hs, hf, q⟩ := h
  cases hf
  exact q ρ [] H (Step.refl _ _) hs RpL.nil
theorem ma_cons (ha : ME X e fe) (hr : MA X es fs) (hs : starEach (e :: es) X.env = (false, eval e X.env) :: starEach es X.env := by rfl) : MA X (e :: es) (aCons fe fs) := by
  refine ⟨PA.weak (pa_cons ha.pe hr.pa hs) fun σ H Q h => ?_⟩
  obtain ⟨ρ, env, S, k, S', he, hs, hf, q⟩ := h
  obtain ⟨x, S1, h1, hf⟩ := bind2 hf
  obtain ⟨y, S2, h2, hf⟩ := bind2 hf
  cases hf
  refine tE.bind he hs h1 fun ρ1 v1 H1 st1 he1 sr1 r1 => ?_
  exact tA.bind he1 sr1 h2 fun ρ2 vs H2 st2 he2 sr2 r2 => q ρ2 _ H2 (st1.trans st2) sr2 (RpL.cons (r1.step st2) r2)
def eTup (f : ADen) : Den := fun env S => (f env S).bind fun p => if p.1.length ≤ sizeLine then some (.tup p.1, p.2) else none
theorem rp_tup {G : Gx} {ρ : List Lo} {H : Hp} {p : Addr} {ds : List D} {vs : List V} (hp : H p = none) (r : RpL G ρ H ds vs) : Rp G ρ (upd H p (.tup vs)) (.tup ds) (.ref p) := by
  simp only [Rp]
  exact ⟨p, vs, rfl, .inl (.inl upd_same), r.step (Step.untracked hp)⟩
theorem rp_loc {G : Gx} {ρ : List Lo} {H : Hp} {p : Addr} {S : Sto} (h : SR G ρ H S) {H' : Hp} : Rp G (ρ ++ [(p, true)]) H' (.loc S.length) (.ref p) := by
  simp only [Rp]
  exact ⟨(p, true), by rw [← h.len]; simp, rfl⟩
theorem SR.newL {G : Gx} {ρ : List Lo} {H : Hp} {p : Addr} {S : Sto} (h : SR G ρ H S) (hp : H p = none) {ds : List D} {vs : List V} (r : RpL G ρ H ds vs) : SR G (ρ ++ [(p, true)]) (upd H p (.lst vs)) (S ++ [.lst ds]) :=
  h.new hp rfl ⟨vs, upd_same, r.step (Step.newloc hp)⟩
theorem me_tup {k : Nat} (h : MA X es fs) : ME X (.Tuple es k pos) (eTup fs) := by
  refine ⟨PE.weak (pe_tup h.pa) fun σ H Q h => ?_⟩
  obtain ⟨ρ, env, S, d, S', he, hs, hf, q⟩ := h
  obtain ⟨x, S1, h1, hf⟩ := bind2 hf
  split at hf
  · cases hf
    rename_i hz
    refine tA.bind he hs h1 fun ρ1 vs H1 st1 he1 sr1 r1 => ⟨by rw [r1.length]; exact hz, fun p hp => ?_⟩
    exact q ρ1 _ _ (st1.trans (Step.untracked hp)) (sr1.untracked hp) (rp_tup hp r1)
  · cases hf
/-- a call by values -/
def eCall (g : Fn) (f : ADen) : Den := fun env S => (f env S).bind fun p => g p.1 p.2
/-- what a def promises: its function on data -/
def spD (G : Gx) (g : Fn) : Sp := fun vs H Q _ => rC G g vs H Q
theorem call_imp {G : Gx} {g : Fn} {r : List V → Hp → VK → Prop} (hi : ImpC G g r) {σ : L2.St} {H : Hp} {Q : VK} (h : tE G (eCall g fs) σ H Q) : tCB r (tA G fs) σ H Q := by
  obtain ⟨ρ, env, S, d, S', he, hs, hf, q⟩ := h
  obtain ⟨x, S1, h1, hf⟩ := bind2 hf
  refine tA.bind he hs h1 fun ρ1 vs H1 st1 he1 sr1 r1 => ?_
  exact hi _ _ _ ⟨ρ1, S1, x, d, S', sr1, r1, hf, fun ρ' v H' st sr rr => q ρ' v H' (st1.trans st) sr rr⟩
theorem me_call {k k' : Nat} {f : Addr} {fd : FuncData} {ps : List Str} {g : Fn} {x : Str} {p : Pos} (F : FnOk X.prog X.w X.K X.mg X.base CX0 k f fd ps (spD (gx X) g)) (hr : Room k' X.A) (hk' : k ≤ k') (hg : Gl X x) (hm : X.mg x = some (.ref f)) (hk : PySem.W.keepIn X.K (.ref f) = true) (hb : Binds X.K fd ps []) (ha : MA X (e :: es) fs)
    (hdb : (x == ("__debug__" : Str)) = false := by decide) (he : starEach (e :: es) X.env = (false, eval e X.env) :: starEach es X.env := by rfl) (hpl : (backTo pos (starEach es X.env)).any (·.1) = false := by rfl) :
    ME X (.Call (.Name x p) (e :: es) [] pos) (eCall g fs) := by
  refine ⟨PE.weak (pe_call F (hr.mono hk') hg hm hk hb .nil pass0 ha.pa hdb he hpl) fun σ H Q h => ?_⟩
  have z := call_imp (r := rC (gx X) g) (fun _ _ _ h => h) h
  unfold tCall
  unfold tCB at z
  simpa [spD] using z
/-- a built-in def by its name -/
theorem me_callB {id : String} {g : Fn} {r : List V → Hp → VK → Prop} {x : Str} {p : Pos} (hc : CallR X (.builtin id) r) (hi : ImpC (gx X) g r) (hg : Gl X x) (hm : X.mg x = none) (hv : bootBuiltins x = some (.builtin id)) (ha : MA X (e :: es) fs) (hn : x ≠ "__name__" := by decide) (hdb : (x == ("__debug__" : Str)) = false := by decide)
    (he : starEach (e :: es) X.env = (false, eval e X.env) :: starEach es X.env := by rfl) (hpl : (backTo pos (starEach es X.env)).any (·.1) = false := by rfl) : ME X (.Call (.Name x p) (e :: es) [] pos) (eCall g fs) :=
  ⟨PE.weak (pe_callB hc hg hm hv ha.pa hn hdb he hpl) fun _ _ _ h => call_imp hi h⟩
theorem me_callTy {id : String} {g : Fn} {r : List V → Hp → VK → Prop} {x : Str} {p : Pos} (hc : CallR X (.type id) r) (hi : ImpC (gx X) g r) (hg : Gl X x) (hm : X.mg x = none) (hv : bootBuiltins x = some (.type id)) (ha : MA X (e :: es) fs) (hn : x ≠ "__name__" := by decide) (hdb : (x == ("__debug__" : Str)) = false := by decide)
    (he : starEach (e :: es) X.env = (false, eval e X.env) :: starEach es X.env := by rfl) (hpl : (backTo pos (starEach es X.env)).any (·.1) = false := by rfl) : ME X (.Call (.Name x p) (e :: es) [] pos) (eCall g fs) :=
  ⟨PE.weak (pe_callTy hc hg hm hv ha.pa hn hdb he hpl) fun _ _ _ h => call_imp hi h⟩
end
end ML

namespace ML
open PySem PySem.Spec PyProof.Rows L2

/-! ### arithmetic -/
def wideM (i j : Int) : Prop := i.natAbs.log2 + j.natAbs.log2 < 1000000
instance (i j : Int) : Decidable (wideM i j) := by unfold wideM; infer_instance
def wideD (j : Int) : Prop := j ≠ 0 ∧ j.natAbs.log2 < 9000
instance (j : Int) : Decidable (wideD j) := by unfold wideD; infer_instance
def gAdd : Op2
  | .int i, .int j, S => some (.int (i + j), S)
  | .str x, .str y, S => if x.length + y.length ≤ sizeLine then some (.str (x ++ y), S) else none
  | .tup x, .tup y, S => if x.length + y.length ≤ sizeLine then some (.tup (x ++ y), S) else none
  | .loc l, .loc m, S => match S[l]?, S[m]? with
    | some (.lst x), some (.lst y) => if x.length + y.length ≤ sizeLine then some (.loc S.length, S ++ [.lst (x ++ y)]) else none
    | _, _ => none
  | _, _, _ => none
def gSub : Op2
  | .int i, .int j, S => some (.int (i - j), S)
  | _, _, _ => none
def gMul : Op2
  | .int i, .int j, S => if wideM i j then some (.int (i * j), S) else none
  | .loc l, .int k, S => match S[l]? with
    | some (.lst x) => if -(2 ^ 63) ≤ k ∧ k < 2 ^ 63 ∧ x.length * k.toNat ≤ sizeLine then some (.loc S.length, S ++ [.lst (List.replicate k.toNat x).flatten]) else none
    | _ => none
  | .tup x, .int k, S => if x ≠ [] ∧ 2 ≤ k ∧ k ≤ 1000 ∧ x.length ≤ 1000 then some (.tup (List.replicate k.toNat x).flatten, S) else none
  | _, _, _ => none
def gFdiv : Op2
  | .int i, .int j, S => if wideD j then some (.int (i.fdiv j), S) else none
  | _, _, _ => none
def gMod : Op2
  | .int i, .int j, S => if j ≠ 0 then some (.int (i.fmod j), S) else none
  | _, _, _ => none
def gPow : Op2
  | .int i, .int j, S => if 0 ≤ j ∧ j ≤ 1000000 ∧ i.natAbs < 2 ^ 64 then some (.int (i ^ j.toNat), S) else none
  | _, _, _ => none
def gNeg : Op1
  | .int i, S => some (.int (-i), S)
  | _, _ => none
section
variable {X : Cx}
theorem op_fdivA : OpR X (binaryOp .FloorDiv) (rI (fun _ j => wideD j) fun i j => .int (i.fdiv j)) := opI fun _ _ _ _ _ _ _ hc q => floordiv_int hc.1 q (.inl (PyProof.noPylong_of_log2 hc.2))
variable {G : Gx}
theorem rI_of {C : Int → Int → Prop} {f : Int → Int → Int} {g : Op2} (hg : ∀ a b S d S', g a b S = some (d, S') → ∃ i j, a = .int i ∧ b = .int j ∧ C i j ∧ d = .int (f i j) ∧ S' = S) : Imp2 G g (rI C fun i j => .int (f i j)) := by
  rintro x y H Q ⟨ρ, S, d1, d2, d, S', hs, r1, r2, h, q⟩
  obtain ⟨i, j, rfl, rfl, hc, rfl, rfl⟩ := hg _ _ _ _ _ h
  exact ⟨i, j, rp_int r1, rp_int r2, hc, q ρ _ H (Step.refl _ _) hs (rp_of_int _)⟩
theorem rp_vs {ρ : List Lo} {H : Hp} {ds : List D} {v : V} (h : Rp G ρ H (.tup ds) v) : ∃ a vs, v = .ref a ∧ SqT G.K H a vs ∧ RpL G ρ H ds vs := by simpa only [Rp] using h
theorem rp_lc {ρ : List Lo} {H : Hp} {l : Nat} {v : V} (h : Rp G ρ H (.loc l) v) : ∃ a, ρ[l]? = some a ∧ v = .ref a.1 := by simpa only [Rp] using h
theorem RpL.nil_iff {ρ : List Lo} {H : Hp} {ds : List D} {vs : List V} (h : RpL G ρ H ds vs) : ds = [] ↔ vs = [] := by
  have := h.length
  constructor
  · intro e; subst e; exact List.eq_nil_of_length_eq_zero this
  · intro e; subst e; exact List.eq_nil_of_length_eq_zero this.symm
theorem RpL.rep {ρ : List Lo} {H : Hp} {ds : List D} {vs : List V} (h : RpL G ρ H ds vs) : ∀ n : Nat, RpL G ρ H (List.replicate n ds).flatten (List.replicate n vs).flatten
  | 0 => RpL.nil
  | n + 1 => by
    rw [List.replicate_succ, List.flatten_cons, List.replicate_succ, List.flatten_cons]
    exact h.append (RpL.rep h n)
def rStrAdd : R2 := fun x y H Q => ∃ i j, x = .str i ∧ y = .str j ∧ i.length + j.length ≤ sizeLine ∧ Q (.str (i ++ j)) H
def rAddAll (K : PySem.W.Frag) : R2 := fun x y H Q => rI0 (fun i j => .int (i + j)) x y H Q ∨ (rStrAdd x y H Q ∨ (rCatA K x y H Q ∨ rCat x y H Q))
theorem op_addAll : OpR X (binaryOp .Add) (rAddAll X.K) := op_add.or (op_add_str.or (op_catA.or op_cat))
theorem imp_add : Imp2 G gAdd (rAddAll G.K) := by
  rintro x y H Q ⟨ρ, S, d1, d2, d, S', hs, r1, r2, h, q⟩
  unfold gAdd at h
  split at h
  · cases h; exact .inl ⟨_, _, rp_int r1, rp_int r2, q ρ _ H (Step.refl _ _) hs (rp_of_int _)⟩
  · split at h
    · cases h; rename_i hz
      exact .inr (.inl ⟨_, _, rp_str r1, rp_str r2, hz, q ρ _ H (Step.refl _ _) hs (rp_of_str _)⟩)
    · cases h
  · split at h
    · cases h; rename_i hz
      obtain ⟨a, vs, rfl, q1, l1⟩ := rp_vs r1
      obtain ⟨b, ws, rfl, q2, l2⟩ := rp_vs r2
      refine .inr (.inr (.inl ⟨a, b, vs, ws, rfl, rfl, q1, q2, by rw [l1.length, l2.length]; exact hz, fun e => ?_, fun e1 e2 => ?_, fun e1 e2 p hp => ?_⟩))
      · have := l1.nil_iff.mpr e
        subst this
        exact q ρ _ H (Step.refl _ _) hs r2
      · have := l2.nil_iff.mpr e2
        subst this
        rw [List.append_nil] at q
        exact q ρ _ H (Step.refl _ _) hs r1
      · exact q ρ _ _ (Step.untracked hp) (hs.untracked hp) (rp_tup hp (l1.append l2))
    · cases h
  · rename_i l m S
    split at h
    · rename_i x1 y1 e1 e2
      split at h
      · cases h; rename_i hz
        obtain ⟨a, h1, rfl⟩ := rp_lc r1
        obtain ⟨b, h2, rfl⟩ := rp_lc r2
        obtain ⟨vs, q1, l1⟩ := hs.obj _ _ _ e1 h1
        obtain ⟨ws, q2, l2⟩ := hs.obj _ _ _ e2 h2
        refine .inr (.inr (.inr ⟨a.1, b.1, vs, ws, rfl, rfl, q1, q2, by rw [l1.length, l2.length]; exact hz, fun p hp => ?_⟩))
        exact q _ _ _ (Step.newloc hp) (hs.newL hp (l1.append l2)) (rp_loc hs)
      · cases h
    · cases h
  · cases h
theorem imp_sub : Imp2 G gSub (rI0 fun i j => .int (i - j)) := by
  rintro x y H Q ⟨ρ, S, d1, d2, d, S', hs, r1, r2, h, q⟩
  unfold gSub at h
  split at h
  · cases h; exact ⟨_, _, rp_int r1, rp_int r2, q ρ _ H (Step.refl _ _) hs (rp_of_int _)⟩
  · cases h
def rMulAll (K : PySem.W.Frag) : R2 := fun x y H Q => rI CMulW (fun i j => .int (i * j)) x y H Q ∨ (rRep x y H Q ∨ rRepT K x y H Q)
theorem op_mulAll : OpR X (binaryOp .Mult) (rMulAll X.K) := op_mulW.or (op_rep.or op_repT)
theorem imp_mul : Imp2 G gMul (rMulAll G.K) := by
  rintro x y H Q ⟨ρ, S, d1, d2, d, S', hs, r1, r2, h, q⟩
  unfold gMul at h
  split at h
  · split at h
    · cases h; rename_i hz
      exact .inl ⟨_, _, rp_int r1, rp_int r2, hz, q ρ _ H (Step.refl _ _) hs (rp_of_int _)⟩
    · cases h
  · split at h
    · rename_i x1 e1
      split at h
      · cases h; rename_i hz
        obtain ⟨a, h1, rfl⟩ := rp_lc r1
        obtain ⟨vs, q1, l1⟩ := hs.obj _ _ _ e1 h1
        have e := rp_int r2
        subst e
        refine .inr (.inl ⟨a.1, _, vs, rfl, rfl, q1, hz.1, hz.2.1, by rw [l1.length]; exact hz.2.2, fun p hp => ?_⟩)
        exact q _ _ _ (Step.newloc hp) (hs.newL hp (l1.rep _)) (rp_loc hs)
      · cases h
    · cases h
  · split at h
    · cases h; rename_i hz
      obtain ⟨a, vs, rfl, q1, l1⟩ := rp_vs r1
      have e := rp_int r2
      subst e
      refine .inr (.inr ⟨a, _, vs, rfl, rfl, q1, fun e => hz.1 (l1.nil_iff.mpr e), hz.2.1, hz.2.2.1, by rw [l1.length]; exact hz.2.2.2, fun p hp => ?_⟩)
      exact q ρ _ _ (Step.untracked hp) (hs.untracked hp) (rp_tup hp (l1.rep _))
    · cases h
  · cases h
theorem imp_fdiv : Imp2 G gFdiv (rI (fun _ j => wideD j) fun i j => .int (i.fdiv j)) := rI_of fun a b S d S' h => by
  unfold gFdiv at h
  split at h
  · split at h
    · cases h; exact ⟨_, _, rfl, rfl, by assumption, rfl, rfl⟩
    · cases h
  · cases h
theorem imp_mod : Imp2 G gMod (rI (fun _ j => j ≠ 0) fun i j => .int (i.fmod j)) := rI_of fun a b S d S' h => by
  unfold gMod at h
  split at h
  · split at h
    · cases h; exact ⟨_, _, rfl, rfl, by assumption, rfl, rfl⟩
    · cases h
  · cases h
theorem imp_pow : Imp2 G gPow (rI CPow fun i j => .int (i ^ j.toNat)) := rI_of fun a b S d S' h => by
  unfold gPow at h
  split at h
  · split at h
    · cases h; exact ⟨_, _, rfl, rfl, by assumption, rfl, rfl⟩
    · cases h
  · cases h
theorem imp_neg (x : V) (H : Hp) (Q : VK) : rU1 G gNeg x H Q → rU (fun i => .int (-i)) x H Q := by
  rintro ⟨ρ, S, d1, d, S', hs, r1, h, q⟩
  unfold gNeg at h
  split at h
  · cases h; exact ⟨_, rp_int r1, q ρ _ H (Step.refl _ _) hs (rp_of_int _)⟩
  · cases h
variable {a b c : Expr} {fa fb fc : Den} {pos : Pos}
theorem me_add (ha : ME X a fa) (hb : ME X b fb) : ME X (.BinOp a .Add b pos) (eOp gAdd fa fb) := me_op op_addAll imp_add ha hb
theorem me_sub (ha : ME X a fa) (hb : ME X b fb) : ME X (.BinOp a .Sub b pos) (eOp gSub fa fb) := me_op op_sub imp_sub ha hb
theorem me_mul (ha : ME X a fa) (hb : ME X b fb) : ME X (.BinOp a .Mult b pos) (eOp gMul fa fb) := me_op op_mulAll imp_mul ha hb
theorem me_fdiv (ha : ME X a fa) (hb : ME X b fb) : ME X (.BinOp a .FloorDiv b pos) (eOp gFdiv fa fb) := me_op op_fdivA imp_fdiv ha hb
theorem me_mod (ha : ME X a fa) (hb : ME X b fb) : ME X (.BinOp a .Mod b pos) (eOp gMod fa fb) := me_op op_modN imp_mod ha hb
theorem me_pow (ha : ME X a fa) (hb : ME X b fb) : ME X (.BinOp a .Pow b pos) (eOp gPow fa fb) := me_op op_pow imp_pow ha hb
theorem me_neg (ha : ME X a fa) : ME X (.UnaryOp .USub a pos) (eUn gNeg fa) := me_un un_neg imp_neg ha

/-! ### comparisons -/
def gCmp (p : Int → Int → Bool) : Op2
  | .int i, .int j, S => some (.bl (p i j), S)
  | _, _, _ => none
theorem imp_cmp {p : Int → Int → Bool} : Imp2 G (gCmp p) (rI0 fun i j => .bl (p i j)) := by
  rintro x y H Q ⟨ρ, S, d1, d2, d, S', hs, r1, r2, h, q⟩
  unfold gCmp at h
  split at h
  · cases h; exact ⟨_, _, rp_int r1, rp_int r2, q ρ _ H (Step.refl _ _) hs (rp_of_bl _)⟩
  · cases h
abbrev cLt : Op2 := gCmp fun i j => decide (i < j)
abbrev cLe : Op2 := gCmp fun i j => decide (i ≤ j)
abbrev cGt : Op2 := gCmp fun i j => decide (j < i)
abbrev cGe : Op2 := gCmp fun i j => decide (j ≤ i)
/-! data without places -/
mutual
def toP : D → Option PyData
  | .non => some .none
  | .bl b => some (.bool b)
  | .int i => some (.int i)
  | .str x => some (.str x)
  | .tup ds => (toPL ds).map .tuple
  | _ => none
def toPL : List D → Option (List PyData)
  | [] => some []
  | d :: ds => (toP d).bind fun p => (toPL ds).map fun r => p :: r
end
mutual
theorem toP_ok {ρ : List Lo} {H : Hp} : ∀ {d : D} {v : V} {p : PyData}, toP d = some p → Rp G ρ H d v → Dp G.K H v p
  | .non, v, p, e, r => by simp only [toP] at e; simp only [Rp] at r; subst r; cases e; exact .non
  | .bl b, v, p, e, r => by simp only [toP] at e; simp only [Rp] at r; subst r; cases e; exact .bl b
  | .int i, v, p, e, r => by simp only [toP] at e; simp only [Rp] at r; subst r; cases e; exact .int i
  | .str x, v, p, e, r => by simp only [toP] at e; simp only [Rp] at r; subst r; cases e; exact .str x
  | .tup ds, v, p, e, r => by
    simp only [toP] at e
    obtain ⟨ps, h1, h2⟩ := Option.map_eq_some_iff.mp e
    subst h2
    simp only [Rp] at r
    obtain ⟨a, vs, rfl, q, l⟩ := r
    exact .tup q (toPL_ok h1 l)
  | .loc _, v, p, e, r => by simp [toP] at e
  | .ty _, v, p, e, r => by simp [toP] at e
  | .fn _, v, p, e, r => by simp [toP] at e
theorem toPL_ok {ρ : List Lo} {H : Hp} : ∀ {ds : List D} {vs : List V} {ps : List PyData}, toPL ds = some ps → RpL G ρ H ds vs → DpAll G.K H vs ps
  | [], vs, ps, e, r => by simp only [toPL] at e; simp only [RpL] at r; subst r; cases e; exact .nil
  | d :: ds, vs, ps, e, r => by
    simp only [toPL] at e
    obtain ⟨p, h1, e⟩ := Option.bind_eq_some_iff.mp e
    obtain ⟨r', h2, e⟩ := Option.map_eq_some_iff.mp e
    subst e
    simp only [RpL] at r
    obtain ⟨v, t, rfl, q, l⟩ := r
    exact .cons (toP_ok h1 q) (toPL_ok h2 l)
end
/-- .. and a list of such -/
def toPS (S : Sto) : D → Option PyData
  | .loc l => (lsAt S l).bind fun xs => (toPL xs).map .list
  | d => toP d
theorem toPS_ok {ρ : List Lo} {H : Hp} {S : Sto} (hs : SR G ρ H S) {d : D} {v : V} {p : PyData} (e : toPS S d = some p) (r : Rp G ρ H d v) : Dp G.K H v p := by
  cases d with
  | loc l =>
    simp only [toPS] at e
    obtain ⟨xs, h1, e⟩ := Option.bind_eq_some_iff.mp e
    obtain ⟨ps, h2, e⟩ := Option.map_eq_some_iff.mp e
    subst e
    obtain ⟨a, hr, rfl⟩ := rp_lc r
    obtain ⟨a', vs, hr', q, l⟩ := lsAt_of hs h1
    rw [hr] at hr'; cases hr'
    exact .lst q (toPL_ok h2 l)
  | _ => exact toP_ok (by simpa only [toPS] using e) r
def eqP (S : Sto) (a b : D) : Option Bool := (toPS S a).bind fun p => (toPS S b).bind fun q => if SeqAt.shaped p && SeqAt.shaped q then some (PyData.eqv p q) else none
def cEq : Op2 := fun a b S => (eqP S a b).map fun k => (.bl k, S)
def cNe : Op2 := fun a b S => (eqP S a b).map fun k => (.bl (!k), S)
theorem eqP_some {S : Sto} {a b : D} {k : Bool} (h : eqP S a b = some k) : ∃ p q, toPS S a = some p ∧ toPS S b = some q ∧ SeqAt.shaped p = true ∧ SeqAt.shaped q = true ∧ k = PyData.eqv p q := by
  obtain ⟨p, h1, h⟩ := Option.bind_eq_some_iff.mp h
  obtain ⟨q, h2, h⟩ := Option.bind_eq_some_iff.mp h
  split at h
  · rename_i hz
    cases h
    have := Bool.and_eq_true_iff.mp hz
    exact ⟨p, q, h1, h2, this.1, this.2, rfl⟩
  · cases h
theorem imp_eq : Imp2 G cEq (rEqD G.K) := by
  rintro x y H Q ⟨ρ, S, d1, d2, d, S', hs, r1, r2, h, q⟩
  obtain ⟨k, h1, h2⟩ := Option.map_eq_some_iff.mp h
  cases h2
  obtain ⟨p1, p2, e1, e2, s1, s2, rfl⟩ := eqP_some h1
  exact ⟨p1, p2, toPS_ok hs e1 r1, toPS_ok hs e2 r2, s1, s2, q ρ _ H (Step.refl _ _) hs (rp_of_bl _)⟩
theorem imp_ne : Imp2 G cNe (rNeD G.K) := by
  rintro x y H Q ⟨ρ, S, d1, d2, d, S', hs, r1, r2, h, q⟩
  obtain ⟨k, h1, h2⟩ := Option.map_eq_some_iff.mp h
  cases h2
  obtain ⟨p1, p2, e1, e2, s1, s2, rfl⟩ := eqP_some h1
  exact ⟨p1, p2, toPS_ok hs e1 r1, toPS_ok hs e2 r2, s1, s2, q ρ _ H (Step.refl _ _) hs (rp_of_bl _)⟩
/-! is -/
def D.isN : D → Bool
  | .non => true
  | _ => false
theorem isN_ok {ρ : List Lo} {H : Hp} {d : D} {v : V} (r : Rp G ρ H d v) : decide (v = .non) = d.isN ∨ ∃ x, d = .fn x := by
  cases d with
  | fn x => exact .inr ⟨x, rfl⟩
  | tup ds => obtain ⟨a, vs, rfl, _⟩ := rp_vs r; exact .inl rfl
  | loc l => obtain ⟨a, _, rfl⟩ := rp_lc r; exact .inl rfl
  | _ => simp only [Rp] at r; subst r; exact .inl rfl
def cIs : Op2
  | .fn _, _, _ => none
  | d, .non, S => some (.bl d.isN, S)
  | .bl a, .bl b, S => some (.bl (decide (a = b)), S)
  | _, _, _ => none
def cIsNot : Op2
  | .fn _, _, _ => none
  | d, .non, S => some (.bl (!d.isN), S)
  | .bl a, .bl b, S => some (.bl (!decide (a = b)), S)
  | _, _, _ => none
def rIsNotA : R2 := fun x y H Q => (y = .non ∧ Q (.bl (!decide (x = .non))) H) ∨ rNotB x y H Q
theorem op_isNotA : OpR X (compareOp .IsNot) rIsNotA := op_notN.or op_notBl
theorem imp_isNot : Imp2 G cIsNot rIsNotA := by
  rintro x y H Q ⟨ρ, S, d1, d2, d, S', hs, r1, r2, h, q⟩
  unfold cIsNot at h
  split at h
  · cases h
  · rename_i hn
    cases h
    rcases isN_ok r1 with e | ⟨x, e⟩
    · exact .inl ⟨rp_non r2, by rw [e]; exact q ρ _ H (Step.refl _ _) hs (rp_of_bl _)⟩
    · exact absurd e (hn x)
  · cases h
    exact .inr ⟨_, _, rp_bl r1, rp_bl r2, q ρ _ H (Step.refl _ _) hs (rp_of_bl _)⟩
  · cases h
end
end ML

namespace ML
open PySem PySem.Spec PyProof.Rows L2

/-! ### lists that nobody else holds -/
/-- e makes a new list of the told items, at no place of the store -/
def tU (G : Gx) (f : ADen) : TE := fun σ H Q => ∃ ρ env S ds S', EnR G ρ H env σ ∧ SR G ρ H S ∧ f env S = some (ds, S') ∧
  ∀ ρ' p vs H', Step ρ H ρ' H' → SR G ρ' H' S' → RpL G ρ' H' ds vs → H' p = some (.lst vs) → H p = none → (p, true) ∉ ρ' → Q (.ref p) H'
structure MU (X : Cx) (e : Expr) (f : ADen) : Prop where
  pu : PE X e (tU (gx X) f)
/-- the new list gets a place -/
def eOwn (f : ADen) : Den := fun env S => (f env S).bind fun p => some (.loc p.2.length, p.2 ++ [.lst p.1])
/-- what is done with its items at once -/
def eU (g : Fn) (f : ADen) : Den := fun env S => (f env S).bind fun p => g p.1 p.2
section
variable {G : Gx} {ρ ρ' : List Lo} {H H' : Hp} {S S' : Sto}
theorem Step.free (s : Step ρ H ρ' H') (hs : SR G ρ' H' S') {p : Addr} (hp : H' p = none) : H p = none := by
  cases q : H p with
  | none => rfl
  | some o =>
    by_cases m : (p, true) ∈ ρ
    · obtain ⟨u, e⟩ := hs.there (s.pre.subset m)
      rw [hp] at e; cases e
    · rw [s.oth p o q m] at hp; cases hp
theorem Step.keepU (s : Step ρ H ρ' H') {p : Addr} {o : HO} (h : H p = some o) (n : (p, true) ∉ ρ) : H' p = some o ∧ (p, true) ∉ ρ' :=
  ⟨s.oth p o h n, fun m => by
    rcases s.new p m with z | z
    · exact n z
    · rw [z] at h; cases h⟩
theorem tU.bind {f : ADen} {σ : L2.St} {env : En} {S S1 : Sto} {ds : List D} {R : VK} (he : EnR G ρ H env σ) (hs : SR G ρ H S) (h : f env S = some (ds, S1))
    (k : ∀ ρ' p vs H', Step ρ H ρ' H' → EnR G ρ' H' env σ → SR G ρ' H' S1 → RpL G ρ' H' ds vs → H' p = some (.lst vs) → H p = none → (p, true) ∉ ρ' → R (.ref p) H') : tU G f σ H R :=
  ⟨ρ, env, S, ds, S1, he, hs, h, fun ρ' p vs H' x y z a b c => k ρ' p vs H' x (he.step x) y z a b c⟩
theorem SR.ownL (h : SR G ρ H S) {p : Addr} {ds : List D} {vs : List V} (hp : (p, true) ∉ ρ) (e : H p = some (.lst vs)) (r : RpL G ρ H ds vs) : SR G (ρ ++ [(p, true)]) H (S ++ [.lst ds]) :=
  h.own hp rfl ⟨vs, e, RpL.mon Mon.ext r⟩
theorem Step.take (s : Step ρ H ρ' H') {p : Addr} (hp : H p = none) : Step ρ H (ρ' ++ [(p, true)]) H' :=
  ⟨⟨s.pre.trans (List.prefix_append _ _), s.tup, s.frz⟩, fun a ha => by
    rcases List.mem_append.mp ha with z | z
    · exact s.new a z
    · have e : a = p := by simpa using z
      exact .inr (e ▸ hp), s.oth⟩
end
section
variable {X : Cx} {e a b : Expr} {es : List Expr} {fe fa fb : Den} {fs fu : ADen} {pos : Pos}
theorem me_own (h : MU X e fu) : ME X e (eOwn fu) := by
  refine ⟨PE.weak h.pu fun σ H Q h => ?_⟩
  obtain ⟨ρ, env, S, d, S', he, hs, hf, q⟩ := h
  obtain ⟨x, S1, h1, hf⟩ := bind2 hf
  cases hf
  exact tU.bind he hs h1 fun ρ1 p vs H1 st1 he1 sr1 r1 e1 f1 n1 => q _ _ _ (st1.take f1) (sr1.ownL n1 e1 r1) (rp_loc sr1)
def uLst (f : ADen) : ADen := fun env S => (f env S).bind fun p => if p.1.length ≤ sizeLine then some p else none
theorem mu_lst (h : MA X es fs) : MU X (.List es pos) (uLst fs) := by
  refine ⟨PE.weak (pe_lst h.pa) fun σ H Q h => ?_⟩
  obtain ⟨ρ, env, S, d, S', he, hs, hf, q⟩ := h
  obtain ⟨x, S1, h1, hf⟩ := bind2 hf
  split at hf
  · cases hf
    rename_i hz
    refine tA.bind he hs h1 fun ρ1 vs H1 st1 he1 sr1 r1 => ⟨by rw [r1.length]; exact hz, fun p hp => ?_⟩
    exact q ρ1 p vs _ (st1.trans (Step.untracked hp)) (sr1.untracked hp) (r1.step (Step.untracked hp)) upd_same (st1.free sr1 hp) (sr1.fresh hp)
  · cases hf

/-! ### places in lists and tuples -/
def gIx : Op2
  | .tup xs, .int i, S => (atI xs i).map fun d => (d, S)
  | .loc l, .int i, S => (lsAt S l).bind fun xs => (atI xs i).map fun d => (d, S)
  | .str z, .int i, S => if z.length ≤ sizeLine then (atI z.cps.toList i).map fun c => (.str ⟨#[c]⟩, S) else none
  | _, _, _ => none
theorem atI_L {G : Gx} {ρ : List Lo} {H : Hp} {ds : List D} {vs : List V} {i : Int} {d : D} (r : RpL G ρ H ds vs) (e : atI ds i = some d) : ∃ v, atI vs i = some v ∧ Rp G ρ H d v := by
  unfold atI at e ⊢
  obtain ⟨j, h1, h2⟩ := Option.bind_eq_some_iff.mp e
  obtain ⟨v, h3, h4⟩ := r.get h2
  exact ⟨v, by rw [r.length, h1]; exact h3, h4⟩
theorem imp_ix {G : Gx} : Imp2 G gIx (rIx G.K) := by
  rintro x y H Q ⟨ρ, S, d1, d2, d, S', hs, r1, r2, h, q⟩
  unfold gIx at h
  split at h
  · obtain ⟨z, h1, h2⟩ := Option.map_eq_some_iff.mp h
    cases h2
    obtain ⟨a, vs, rfl, q1, l1⟩ := rp_vs r1
    obtain ⟨v, e1, rv⟩ := atI_L l1 h1
    exact .inr (.inl ⟨a, vs, _, v, rfl, rp_int r2, q1, e1, q ρ v H (Step.refl _ _) hs rv⟩)
  · obtain ⟨xs, h0, h⟩ := Option.bind_eq_some_iff.mp h
    obtain ⟨z, h1, h2⟩ := Option.map_eq_some_iff.mp h
    cases h2
    obtain ⟨a, hr, rfl⟩ := rp_lc r1
    obtain ⟨a', vs, hr', q1, l1⟩ := lsAt_of hs h0
    rw [hr] at hr'; cases hr'
    obtain ⟨v, e1, rv⟩ := atI_L l1 h1
    exact .inl ⟨a.1, vs, _, v, rfl, rp_int r2, q1, e1, q ρ v H (Step.refl _ _) hs rv⟩
  · split at h
    · rename_i hz
      obtain ⟨z, h1, h2⟩ := Option.map_eq_some_iff.mp h
      cases h2
      exact .inr (.inr ⟨_, _, z, rp_str r1, rp_int r2, hz, h1, q ρ _ H (Step.refl _ _) hs (rp_of_str _)⟩)
    · cases h
  · cases h
theorem me_ix (ha : ME X a fa) (hb : ME X b fb) (hs : PlainIx b := by intro _ _; rfl) : ME X (.Subscript a b pos) (eOp gIx fa fb) :=
  ⟨PE.weak (pe_ix ix_seq ha.pe hb.pe hs) fun _ _ _ h => bin_imp imp_ix h⟩
/-- [..][i] -/
def eUIx (f : ADen) (g : Den) : Den := fun env S => (f env S).bind fun p => (g env p.2).bind fun q => match q.1 with
  | .int i => (atI p.1 i).map fun d => (d, q.2)
  | _ => none
theorem me_uix (ha : MU X a fu) (hb : ME X b fb) (hs : PlainIx b := by intro _ _; rfl) : ME X (.Subscript a b pos) (eUIx fu fb) := by
  refine ⟨PE.weak (pe_ix ix_seq ha.pu hb.pe hs) fun σ H Q h => ?_⟩
  obtain ⟨ρ, env, S, d, S', he, hs, hf, q⟩ := h
  obtain ⟨x, S1, h1, hf⟩ := bind2 hf
  obtain ⟨y, S2, h2, hf⟩ := bind2 hf
  refine tU.bind he hs h1 fun ρ1 p vs H1 st1 he1 sr1 r1 e1 f1 n1 => ?_
  refine tE.bind he1 sr1 h2 fun ρ2 v2 H2 st2 he2 sr2 r2 => ?_
  cases y with
  | int i =>
    obtain ⟨z, h3, h4⟩ := Option.map_eq_some_iff.mp hf
    cases h4
    obtain ⟨v, e3, rv⟩ := atI_L r1 h3
    exact .inl ⟨p, vs, i, v, rfl, rp_int r2, .inl (.inl (st2.keepU e1 n1).1), e3, q ρ2 v H2 (st1.trans st2) sr2 (rv.step st2)⟩
  | _ => cases hf

/-! ### slices -/
abbrev ODen := En → Sto → Option (Option Int × Sto)
def tO (G : Gx) (f : ODen) : TO := fun σ H Q => ∃ ρ env S o S', EnR G ρ H env σ ∧ SR G ρ H S ∧ f env S = some (o, S') ∧ ∀ ρ' H', Step ρ H ρ' H' → SR G ρ' H' S' → Q o H'
theorem PO.weak {X : Cx} {e : Option Expr} {t t' : TO} (h : PO X e t) (hw : ∀ σ H Q, t' σ H Q → t σ H Q) : PO X e t' := ⟨fun pins s σ H Q I q => h.run pins s σ H Q I (hw σ H Q q)⟩
def oNone : ODen := fun _ S => some (none, S)
def oSome (f : Den) : ODen := fun env S => (f env S).bind fun p => match p.1 with
  | .int i => some (some i, p.2)
  | _ => none
/-- xs[lo:hi] -/
def cutD {α : Type} (xs : List α) (lo hi : Option Int) : List α := (xs.drop (HT.sIx xs.length 0 lo)).take (HT.sIx xs.length xs.length hi - HT.sIx xs.length 0 lo)
variable {lo hi : Option Expr} {fl fh : ODen} {p2 : Pos}
theorem tO.bind {G : Gx} {f : ODen} {σ : L2.St} {H : Hp} {ρ : List Lo} {env : En} {S S1 : Sto} {b : Option Int} {R : Option Int → Hp → Prop} (he : EnR G ρ H env σ) (hs : SR G ρ H S) (h : f env S = some (b, S1))
    (k : ∀ ρ' H', Step ρ H ρ' H' → EnR G ρ' H' env σ → SR G ρ' H' S1 → R b H') : tO G f σ H R :=
  ⟨ρ, env, S, b, S1, he, hs, h, fun ρ' H' x y => k ρ' H' x (he.step x) y⟩
/-- xs[::-1] -/
def uRev (f : Den) : ADen := fun env S => (f env S).bind fun p => match p.1 with
  | .loc m => (lsAt p.2 m).map fun xs => (xs.reverse, p.2)
  | _ => none
end
end ML

namespace ML
open PySem PySem.Spec PyProof.Rows L2

/-! ### methods of lists -/
abbrev Mt := D → List D → Sto → Option (D × Sto)
def isLs (S : Sto) : D → Bool
  | .loc l => (lsAt S l).isSome
  | _ => false
def eMt (g : Mt) (f : Den) (h : ADen) : Den := fun env S => (f env S).bind fun p => if isLs p.2 p.1 = true then (h env p.2).bind fun q => g p.1 q.1 q.2 else none
section
variable {G : Gx} {ρ : List Lo} {H : Hp} {S : Sto}
theorem SR.lst (hs : SR G ρ H S) {l : Nat} {xs : List D} {a : Lo} (e : S[l]? = some (.lst xs)) (r : ρ[l]? = some a) : a.2 = true ∧ ∃ vs, H a.1 = some (.lst vs) ∧ RpL G ρ H xs vs := by
  exact ⟨(hs.mu l _ a e r).symm, hs.obj l _ a e r⟩
theorem SR.putL (hs : SR G ρ H S) {l : Nat} {xs ys : List D} {a : Lo} {vs us : List V} (e : S[l]? = some (.lst xs)) (r : ρ[l]? = some a) (hv : H a.1 = some (.lst vs)) (hu : RpL G ρ H ys us) :
    SR G ρ (upd H a.1 (.lst us)) (S.set l (.lst ys)) ∧ Step ρ H ρ (upd H a.1 (.lst us)) := by
  have m := (hs.mu l _ a e r).symm
  have r' : ρ[l]? = some (a.1, true) := by rw [r]; exact congrArg some (Prod.ext rfl m)
  have st : Step ρ H ρ (upd H a.1 (.lst us)) := Step.write (List.mem_of_getElem? r') hv (fun _ z => nomatch z) fun _ _ z => nomatch z
  exact ⟨hs.write r' hv (fun _ z => nomatch z) (fun _ _ z => nomatch z) rfl ⟨us, upd_same, hu.step st⟩, st⟩
end
section
variable {X : Cx} {o e : Expr} {es : List Expr} {fo : Den} {fs : ADen} {id : String} {name : Str} {apos cpos : Pos} {g : Mt} {r : V → List V → Hp → VK → Prop}
end

/-! ### built-ins -/
def bLen : Fn
  | [.str x], S => if x.length ≤ sizeLine then some (.int x.length, S) else none
  | [.tup xs], S => some (.int xs.length, S)
  | [.loc l], S => (lsAt S l).map fun xs => (.int xs.length, S)
  | _, _ => none
def bAbs : Fn
  | [.int i], S => some (.int (if i < 0 then -i else i), S)
  | _, _ => none
def bInt : Fn
  | [.int i], S => some (.int i, S)
  | [.bl k], S => some (.int (if k then 1 else 0), S)
  | _, _ => none
def bMax : Fn
  | [.int i, .int j], S => some (.int (if j > i then j else i), S)
  | _, _ => none
def bMin : Fn
  | [.int i, .int j], S => some (.int (if j < i then j else i), S)
  | _, _ => none
def bTuple : Fn
  | [.tup xs], S => some (.tup xs, S)
  | [.loc l], S => (lsAt S l).map fun xs => (.tup xs, S)
  | _, _ => none
section
variable {G : Gx} {ρ : List Lo} {H : Hp} {S : Sto}
theorem one_of {d : D} {vs : List V} (h : RpL G ρ H [d] vs) : ∃ v, vs = [v] ∧ Rp G ρ H d v := by
  simp only [RpL] at h
  obtain ⟨v, t, rfl, rv, rfl⟩ := h
  exact ⟨v, rfl, rv⟩
theorem two_of {d e : D} {vs : List V} (h : RpL G ρ H [d, e] vs) : ∃ v u, vs = [v, u] ∧ Rp G ρ H d v ∧ Rp G ρ H e u := by
  simp only [RpL] at h
  obtain ⟨v, t, rfl, rv, u, t2, rfl, ru, rfl⟩ := h
  exact ⟨v, u, rfl, rv, ru⟩
theorem imp_len : ImpC G bLen (fun xs H Q => ∃ x n, xs = [x] ∧ LenV G.K x H n ∧ Q (.int n) H) := by
  rintro xs H Q ⟨ρ, S, ds, d, S', hs, r, h, q⟩
  unfold bLen at h
  split at h
  · split at h
    · cases h; rename_i hz
      obtain ⟨v, rfl, rv⟩ := one_of r
      have := rp_str rv
      subst this
      exact ⟨_, _, rfl, ⟨hz, rfl⟩, q ρ _ H (Step.refl _ _) hs (rp_of_int _)⟩
    · cases h
  · cases h
    obtain ⟨v, rfl, rv⟩ := one_of r
    obtain ⟨a, vs, rfl, q1, l1⟩ := rp_vs rv
    exact ⟨_, _, rfl, .inr ⟨vs, q1, l1.length.symm⟩, q ρ _ H (Step.refl _ _) hs (rp_of_int _)⟩
  · obtain ⟨ys, h1, h2⟩ := Option.map_eq_some_iff.mp h
    cases h2
    obtain ⟨v, rfl, rv⟩ := one_of r
    obtain ⟨a, hr, rfl⟩ := rp_lc rv
    obtain ⟨a', vs, hr', q1, l1⟩ := lsAt_of hs h1
    rw [hr] at hr'; cases hr'
    exact ⟨_, _, rfl, .inl ⟨vs, q1, l1.length.symm⟩, q ρ _ H (Step.refl _ _) hs (rp_of_int _)⟩
  · cases h
theorem imp_abs : ImpC G bAbs (fun xs H Q => ∃ i, xs = [.int i] ∧ Q (.int (if i < 0 then -i else i)) H) := by
  rintro xs H Q ⟨ρ, S, ds, d, S', hs, r, h, q⟩
  unfold bAbs at h
  split at h
  · cases h
    obtain ⟨v, rfl, rv⟩ := one_of r
    exact ⟨_, by rw [rp_int rv], q ρ _ H (Step.refl _ _) hs (rp_of_int _)⟩
  · cases h
theorem imp_int : ImpC G bInt (fun xs H Q => (∃ i, xs = [.int i] ∧ Q (.int i) H) ∨ ∃ k, xs = [.bl k] ∧ Q (.int (if k then 1 else 0)) H) := by
  rintro xs H Q ⟨ρ, S, ds, d, S', hs, r, h, q⟩
  unfold bInt at h
  split at h
  · cases h
    obtain ⟨v, rfl, rv⟩ := one_of r
    exact .inl ⟨_, by rw [rp_int rv], q ρ _ H (Step.refl _ _) hs (rp_of_int _)⟩
  · cases h
    obtain ⟨v, rfl, rv⟩ := one_of r
    exact .inr ⟨_, by rw [rp_bl rv], q ρ _ H (Step.refl _ _) hs (rp_of_int _)⟩
  · cases h
theorem imp_max : ImpC G bMax (fun xs H Q => ∃ i j, xs = [.int i, .int j] ∧ Q (.int (if j > i then j else i)) H) := by
  rintro xs H Q ⟨ρ, S, ds, d, S', hs, r, h, q⟩
  unfold bMax at h
  split at h
  · cases h
    obtain ⟨v, u, rfl, rv, ru⟩ := two_of r
    exact ⟨_, _, by rw [rp_int rv, rp_int ru], q ρ _ H (Step.refl _ _) hs (rp_of_int _)⟩
  · cases h
end
/-! of a list that nobody else holds -/
def gTupU : Fn := fun ds S => some (.tup ds, S)
def gLenU : Fn := fun ds S => some (.int ds.length, S)
section
variable {X : Cx} {e : Expr} {fu : ADen} {g : Fn} {r : List V → Hp → VK → Prop} {x : Str} {p pos : Pos} {id : String} {G : Gx}
end
end ML

namespace ML
open PySem PySem.Spec PyProof.Rows L2

/-! ### targets -/
abbrev GDen := D → En → Sto → Option (En × Sto)
abbrev GsDen := List D → En → Sto → Option (En × Sto)
def tG (G : Gx) (f : GDen) : TG := fun v σ H Q => ∃ ρ env S d env' S', EnR G ρ H env σ ∧ SR G ρ H S ∧ Rp G ρ H d v ∧ f d env S = some (env', S') ∧ ∀ ρ' σ' H', Step ρ H ρ' H' → EnR G ρ' H' env' σ' → SR G ρ' H' S' → Q σ' H'
def tGs (G : Gx) (f : GsDen) : TGs := fun vs σ H Q => ∃ ρ env S ds env' S', EnR G ρ H env σ ∧ SR G ρ H S ∧ RpL G ρ H ds vs ∧ f ds env S = some (env', S') ∧ ∀ ρ' σ' H', Step ρ H ρ' H' → EnR G ρ' H' env' σ' → SR G ρ' H' S' → Q σ' H'
structure MG (X : Cx) (e : Expr) (f : GDen) : Prop where
  pg : PG X e (tG (gx X) f)
structure MGs (X : Cx) (es : List Expr) (f : GsDen) : Prop where
  pgs : PGs X es (tGs (gx X) f)
theorem PG.weak {X : Cx} {e : Expr} {t t' : TG} (h : PG X e t) (hw : ∀ v σ H Q, t' v σ H Q → t v σ H Q) : PG X e t' := ⟨fun pins s σ H v u Q I r q => h.run pins s σ H v u Q I r (hw v σ H Q q)⟩
theorem PGs.weak {X : Cx} {e : List Expr} {t t' : TGs} (h : PGs X e t) (hw : ∀ v σ H Q, t' v σ H Q → t v σ H Q) : PGs X e t' := ⟨fun pins s σ H v u Q I r q => h.run pins s σ H v u Q I r (hw v σ H Q q)⟩
def gName (i : Nat) : GDen := fun d env S => some (env.set i (some d), S)
def gNil : GsDen
  | [], env, S => some (env, S)
  | _, _, _ => none
def gCons (f : GDen) (g : GsDen) : GsDen
  | d :: r, env, S => (f d env S).bind fun p => g r p.1 p.2
  | _, _, _ => none
def gTup (n : Nat) (g : GsDen) : GDen
  | .tup ds, env, S => if ds.length = n then g ds env S else none
  | _, _, _ => none
theorem tG.bind {G : Gx} {f : GDen} {v : V} {d : D} {σ : L2.St} {H : Hp} {ρ : List Lo} {env env' : En} {S S1 : Sto} {R : L2.St → Hp → Prop} (he : EnR G ρ H env σ) (hs : SR G ρ H S) (hr : Rp G ρ H d v) (h : f d env S = some (env', S1))
    (k : ∀ ρ' σ' H', Step ρ H ρ' H' → EnR G ρ' H' env' σ' → SR G ρ' H' S1 → R σ' H') : tG G f v σ H R := ⟨ρ, env, S, d, env', S1, he, hs, hr, h, k⟩
theorem tGs.bind {G : Gx} {f : GsDen} {v : List V} {d : List D} {σ : L2.St} {H : Hp} {ρ : List Lo} {env env' : En} {S S1 : Sto} {R : L2.St → Hp → Prop} (he : EnR G ρ H env σ) (hs : SR G ρ H S) (hr : RpL G ρ H d v) (h : f d env S = some (env', S1))
    (k : ∀ ρ' σ' H', Step ρ H ρ' H' → EnR G ρ' H' env' σ' → SR G ρ' H' S1 → R σ' H') : tGs G f v σ H R := ⟨ρ, env, S, d, env', S1, he, hs, hr, h, k⟩
section
variable {X : Cx} {pos : Pos} {e o i : Expr} {es : List Expr} {f : GDen} {g : GsDen} {fo fi : Den}
theorem mg_name (i : Nat) {x : Str} (hN : X.N.Nodup) (hi : X.N[i]? = some x := by rfl) (hx : Loc X.env.scope x := by first | exact Or.inl rfl | exact Or.inr rfl) (hf : X.fn x = true ∨ X.env.scope.names.lookup x = some .local := by first | exact .inl rfl | exact .inr rfl) : MG X (.Name x pos) (gName i) := by
  refine ⟨PG.weak (pg_name hN hi hx hf) fun v σ H Q h => ?_⟩
  obtain ⟨ρ, env, S, d, env', S', he, hs, hr, h, q⟩ := h
  cases h
  exact q ρ _ H (Step.refl _ _) (he.set hr i) hs
theorem mgs_nil : MGs X [] gNil := by
  refine ⟨PGs.weak pgs_nil fun v σ H Q h => ?_⟩
  obtain ⟨ρ, env, S, d, env', S', he, hs, hr, h, q⟩ := h
  cases d with
  | nil => cases h; simp only [RpL] at hr; exact ⟨hr, q ρ σ H (Step.refl _ _) he hs⟩
  | cons _ _ => cases h
theorem mgs_cons (h1 : MG X e f) (h2 : MGs X es g) (hs : (assignEach (e :: es) X.env).map (·.2) = assign e X.env :: (assignEach es X.env).map (·.2) := by rfl) : MGs X (e :: es) (gCons f g) := by
  refine ⟨PGs.weak (pgs_cons h1.pg h2.pgs hs) fun v σ H Q h => ?_⟩
  obtain ⟨ρ, env, S, d, env', S', he, hs, hr, h, q⟩ := h
  cases d with
  | nil => cases h
  | cons d r =>
    obtain ⟨x, S1, h1, h2⟩ := bind2 (show (f d env S).bind _ = _ from h)
    simp only [RpL] at hr
    obtain ⟨w, t, rfl, rw1, rt⟩ := hr
    refine ⟨w, t, rfl, tG.bind he hs rw1 h1 fun ρ1 σ1 H1 st1 he1 sr1 => ?_⟩
    exact tGs.bind he1 sr1 (rt.step st1) h2 fun ρ2 σ2 H2 st2 he2 sr2 => q ρ2 σ2 H2 (st1.trans st2) he2 sr2
theorem mg_tup {k n : Nat} (hc : X.calm = true) (h : MGs X es g) (hn : (assignEach es X.env).length = n := by rfl) (hst : (assignEach es X.env).findIdx? (·.1) = none := by rfl) : MG X (.Tuple es k pos) (gTup n g) := by
  refine ⟨PG.weak (pg_tup hc h.pgs hn hst) fun v σ H Q h => ?_⟩
  obtain ⟨ρ, env, S, d, env', S', he, hs, hr, h, q⟩ := h
  cases d with
  | tup ds =>
    simp only [gTup] at h
    split at h
    · rename_i hl
      obtain ⟨a, vs, rfl, q1, l1⟩ := rp_vs hr
      exact ⟨a, vs, rfl, q1, by rw [l1.length]; exact hl, tGs.bind he hs l1 h q⟩
    · cases h
  | _ => cases h
/-- o[i] = .. of a list -/
def gPut (fo fi : Den) : GDen := fun d env S => (fo env S).bind fun p => (fi env p.2).bind fun q => match p.1, q.1 with
  | .loc l, .int i => match q.2[l]? with
    | some (.lst xs) => (ixN xs.length i).map fun j => (env, q.2.set l (.lst (xs.set j d)))
    | _ => none
  | _, _ => none
theorem mg_sub (ho : ME X o fo) (hi : ME X i fi)
    (ha : ∀ v, assign (.Subscript o i pos) X.env v = (do
      let ov ← holding [v] (eval o X.env)
      let iv ← holding [v, ov] (eval i X.env)
      standAt pos
      holding [v, ov, iv] (setItem ov iv v)
      release [v, ov, iv] []) := by intro _; rfl) : MG X (.Subscript o i pos) (gPut fo fi) := by
  refine ⟨PG.weak (pg_sub ho.pe hi.pe set_list ha) fun v σ H Q h => ?_⟩
  obtain ⟨ρ, env, S, d, env', S', he, hs, hr, h, q⟩ := h
  obtain ⟨x, S1, h1, h⟩ := bind2 h
  obtain ⟨y, S2, h2, h⟩ := bind2 h
  refine tE.bind he hs h1 fun ρ1 v1 H1 st1 he1 sr1 r1 => tE.bind he1 sr1 h2 fun ρ2 v2 H2 st2 he2 sr2 r2 => ?_
  simp only at h
  split at h
  · split at h
    · rename_i l i _ xs e1
      obtain ⟨j, h3, h4⟩ := Option.map_eq_some_iff.mp h
      cases h4
      obtain ⟨a, ha, rfl⟩ := rp_lc (r1.step st2)
      obtain ⟨_, vs, hv, l1⟩ := sr2.lst e1 ha
      obtain ⟨p1, p2⟩ := sr2.putL e1 ha hv (RpL.set ((hr.step st1).step st2) j l1)
      exact ⟨a.1, vs, _, j, rfl, rp_int r2, hv, by rw [l1.length]; exact h3, q ρ2 σ _ ((st1.trans st2).trans p2) (he2.step p2) p1⟩
    · cases h
  · cases h
end

/-! ### what is walked -/
structure Itb where
  ds : List D
  src : List (Nat × Ob)
abbrev IDen := En → Sto → Option (Itb × Sto)
def srcOk (src : List (Nat × Ob)) (S : Sto) : Prop := ∀ p ∈ src, S[p.1]? = some p.2
structure ItR (G : Gx) (ρ : List Lo) (H : Hp) (it : Itb) (J : It) : Prop where
  goes : ∀ i ρ2 H2 S2, i < it.ds.length → Step ρ H ρ2 H2 → SR G ρ2 H2 S2 → srcOk it.src S2 → J.go i H2
  stops : ∀ ρ2 H2 S2, Step ρ H ρ2 H2 → SR G ρ2 H2 S2 → srcOk it.src S2 → J.stop it.ds.length H2
  yields : ∀ i ρ2 H2 S2 x H3, i < it.ds.length → Step ρ H ρ2 H2 → SR G ρ2 H2 S2 → srcOk it.src S2 → J.yld i H2 x H3 → Step ρ2 H2 ρ2 H3 ∧ SR G ρ2 H3 S2 ∧ ∃ d, it.ds[i]? = some d ∧ Rp G ρ2 H3 d x
def tI (G : Gx) (f : IDen) : TI := fun σ H R => ∃ ρ env S it S', EnR G ρ H env σ ∧ SR G ρ H S ∧ f env S = some (it, S') ∧ ∀ ρ' H' J, Step ρ H ρ' H' → SR G ρ' H' S' → ItR G ρ' H' it J → R J H'
structure MI (X : Cx) (tg iter : Expr) (f : IDen) : Prop where
  pi : PI X tg iter (tI (gx X) f)
theorem PI.weak {X : Cx} {tg e : Expr} {t t' : TI} (h : PI X tg e t) (hw : ∀ σ H Q, t' σ H Q → t σ H Q) : PI X tg e t' := ⟨fun pins s σ H Q I q => h.run pins s σ H Q I (hw σ H Q q)⟩
theorem PI.or {X : Cx} {tg e : Expr} {t t' : TI} (h : PI X tg e t) (h' : PI X tg e t') : PI X tg e (fun σ H Q => t σ H Q ∨ t' σ H Q) := ⟨fun pins s σ H Q I q => q.elim (h.run pins s σ H Q I) (h'.run pins s σ H Q I)⟩
/-- a list or a tuple -/
def iSeq (f : Den) : IDen := fun env S => (f env S).bind fun p => match p.1 with
  | .tup ds => some (⟨ds, []⟩, p.2)
  | .loc l => match p.2[l]? with
    | some (.lst ds) => some (⟨ds, [(l, .lst ds)]⟩, p.2)
    | some (.rol ds) => some (⟨ds, [(l, .rol ds)]⟩, p.2)
    | _ => none
  | _ => none
def iU (f : ADen) : IDen := fun env S => (f env S).bind fun p => some (⟨p.1, []⟩, p.2)
section
variable {G : Gx} {ρ : List Lo} {H : Hp}
theorem itR_tup {a : Addr} {ds : List D} {vs : List V} (h : SqT G.K H a vs) (r : RpL G ρ H ds vs) : ItR G ρ H ⟨ds, []⟩ (Itt G.K a) where
  goes := fun i ρ2 H2 S2 hi st sr _ => by
    have hi' : i < vs.length := by rw [r.length]; exact hi
    exact ⟨vs, vs[i], st.seqT h, List.getElem?_eq_getElem hi'⟩
  stops := fun ρ2 H2 S2 st sr _ => ⟨vs, st.seqT h, by rw [r.length] <;> exact Nat.le_refl _⟩
  yields := fun i ρ2 H2 S2 x H3 hi st sr _ y => by
    obtain ⟨rfl, y⟩ := y
    have hx := y vs (st.seqT h)
    obtain ⟨v, e1, e2⟩ := r.get (List.getElem?_eq_getElem hi)
    rw [hx] at e1; cases e1
    exact ⟨Step.refl _ _, sr, _, List.getElem?_eq_getElem hi, e2.step st⟩
theorem itR_lst {a : Lo} {l : Nat} {ob : Ob} {ds : List D} (hx : ob.xs? = some ds) (hr : ρ[l]? = some a) : ItR G ρ H ⟨ds, [(l, ob)]⟩ (Itl G.K a.1) := by
  have key : ∀ ρ2 H2 S2, Step ρ H ρ2 H2 → SR G ρ2 H2 S2 → srcOk [(l, ob)] S2 → ∃ vs, SqL G.K H2 a.1 vs ∧ RpL G ρ2 H2 ds vs := by
    intro ρ2 H2 S2 st sr so
    have e : S2[l]? = some ob := so (l, ob) (by simp)
    obtain ⟨a', vs, h1, h2, h3⟩ := lsAt_of sr (show lsAt S2 l = some ds by unfold lsAt; rw [e]; exact hx)
    rw [pre_get st.pre hr] at h1; cases h1
    exact ⟨vs, h2, h3⟩
  refine ⟨fun i ρ2 H2 S2 hi st sr so => ?_, fun ρ2 H2 S2 st sr so => ?_, fun i ρ2 H2 S2 x H3 hi st sr so y => ?_⟩
  · obtain ⟨vs, h2, h3⟩ := key ρ2 H2 S2 st sr so
    have hi' : i < vs.length := by rw [h3.length]; exact hi
    exact ⟨vs, vs[i], h2, List.getElem?_eq_getElem hi'⟩
  · obtain ⟨vs, h2, h3⟩ := key ρ2 H2 S2 st sr so
    exact ⟨vs, h2, by rw [h3.length] <;> exact Nat.le_refl _⟩
  · obtain ⟨vs, h2, h3⟩ := key ρ2 H2 S2 st sr so
    obtain ⟨rfl, y⟩ := y
    have hx := y vs h2
    obtain ⟨v, e1, e2⟩ := h3.get (List.getElem?_eq_getElem hi)
    rw [hx] at e1; cases e1
    exact ⟨Step.refl _ _, sr, _, List.getElem?_eq_getElem hi, e2⟩
end
section
variable {X : Cx} {tg e a b : Expr} {fe fa fb : Den} {fu : ADen} {p pos : Pos}
theorem mi_seq (h : ME X e fe) : MI X tg e (iSeq fe) := by
  refine ⟨PI.weak (PI.or (pi_tup h.pe) (pi_list h.pe)) fun σ H R h => ?_⟩
  obtain ⟨ρ, env, S, it, S', he, hs, hf, q⟩ := h
  obtain ⟨x, S1, h1, hf⟩ := bind2 hf
  cases x with
  | tup ds =>
    cases hf
    refine .inl (tE.bind he hs h1 fun ρ1 v1 H1 st1 he1 sr1 r1 => ?_)
    obtain ⟨a, vs, rfl, q1, l1⟩ := rp_vs r1
    exact ⟨a, rfl, ⟨vs, q1⟩, q ρ1 H1 _ st1 sr1 (itR_tup q1 l1)⟩
  | loc l =>
    have hk : ∃ ob ds, S1[l]? = some ob ∧ ob.xs? = some ds ∧ it = ⟨ds, [(l, ob)]⟩ ∧ S' = S1 := by
      simp only at hf
      split at hf
      · rename_i ds e1; cases hf; exact ⟨_, _, e1, rfl, rfl, rfl⟩
      · rename_i ds e1; cases hf; exact ⟨_, _, e1, rfl, rfl, rfl⟩
      · cases hf
    obtain ⟨ob, ds, e1, e2, rfl, rfl⟩ := hk
    refine .inr (tE.bind he hs h1 fun ρ1 v1 H1 st1 he1 sr1 r1 => ?_)
    obtain ⟨a, hr, rfl⟩ := rp_lc r1
    obtain ⟨a', vs, h3, h4, h5⟩ := lsAt_of sr1 (show lsAt S' l = some ds by unfold lsAt; rw [e1]; exact e2)
    rw [hr] at h3; cases h3
    exact ⟨a.1, rfl, ⟨vs, h4⟩, q ρ1 H1 _ st1 sr1 (itR_lst e2 hr)⟩
  | _ => cases hf
/-- range -/
def rngs (lo : Int) (n : Nat) : List D := (List.range n).map fun (i : Nat) => D.int (lo + (i : Int))
def iRange1 (fa : Den) : IDen := fun env S => (fa env S).bind fun p => match p.1 with
  | .int j => if -(2 ^ 62) ≤ j ∧ j < 2 ^ 62 then some (⟨rngs 0 j.toNat, []⟩, p.2) else none
  | _ => none
theorem itR_range {G : Gx} {ρ : List Lo} {H : Hp} {lo : Int} {n : Nat} : ItR G ρ H ⟨rngs lo n, []⟩ (Itr lo n) := by
  have hl : (rngs lo n).length = n := by simp [rngs]
  refine ⟨fun i _ _ _ hi _ _ _ => by show i < n; simpa [hl] using hi, fun _ _ _ _ _ _ => by simp [hl, Itr], fun i ρ2 H2 S2 x H3 hi st sr _ y => ?_⟩
  obtain ⟨rfl, rfl⟩ := y
  refine ⟨Step.refl _ _, sr, .int (lo + i), ?_, rp_of_int _⟩
  have hi' : i < n := by simpa [hl] using hi
  simp [rngs, hi']
theorem mi_range1 (hg : Gl X "range") (hm : X.mg "range" = none) (ha : ME X a fa) (hs : starEach [a] X.env = [(false, eval a X.env)] := by rfl) (hs' : starEach [a] X.env = (false, eval a X.env) :: starEach [] X.env := by rfl) : MI X tg (.Call (.Name "range" p) [a] [] pos) (iRange1 fa) := by
  refine ⟨PI.weak (pi_range1 hg hm (pa_cons ha.pe pa_nil hs') hs) fun σ H R h => ?_⟩
  obtain ⟨ρ, env, S, it, S', he, hs, hf, q⟩ := h
  obtain ⟨x, S1, h1, hf⟩ := bind2 hf
  cases x with
  | int j =>
    simp only at hf
    split at hf
    · rename_i hz
      cases hf
      exact tE.bind he hs h1 fun ρ1 v1 H1 st1 he1 sr1 r1 => ⟨j, by rw [rp_int r1], hz.1, hz.2, q ρ1 H1 _ st1 sr1 itR_range⟩
    · cases hf
  | _ => cases hf
/-- zip of two tuples, or of two lists -/
def zipD : List D → List D → List D
  | x :: xs, y :: ys => .tup [x, y] :: zipD xs ys
  | _, _ => []
def iZip (f : ADen) : IDen := fun env S => (f env S).bind fun p => match p.1 with
  | [.tup xs, .tup ys] => some (⟨zipD xs ys, []⟩, p.2)
  | [.loc l, .loc m] => match p.2[l]?, p.2[m]? with
    | some (.lst xs), some (.lst ys) => some (⟨zipD xs ys, [(l, .lst xs), (m, .lst ys)]⟩, p.2)
    | _, _ => none
  | _ => none
end
end ML

namespace ML
open PySem PySem.Spec PyProof.Rows L2

/-! ### comprehensions -/
/-- the slots of a block's own names forgotten -/
def wipeE (env : En) : List Nat → En
  | [] => env
  | v :: vs => (wipeE env vs).set v none
theorem EnR.wiped {G : Gx} {ρ : List Lo} {H : Hp} {env : En} {σ : L2.St} (h : EnR G ρ H env σ) : ∀ vs, EnR G ρ H (wipeE env vs) (L2.wipe σ vs)
  | [] => h
  | v :: vs => by
    have ih := EnR.wiped h vs
    refine ⟨by simp [wipeE, L2.wipe, ih.len], fun i d e => ?_⟩
    unfold wipeE at e
    unfold L2.wipe
    by_cases hi : v = i
    · subst hi
      by_cases hl : v < (wipeE env vs).length
      · rw [List.getElem?_set_self hl] at e; cases e
      · rw [List.getElem?_eq_none (by simpa using hl)] at e; cases e
    · rw [List.getElem?_set_ne hi] at e ⊢
      exact ih.at_ i d e
theorem wipe_get (σ : L2.St) : ∀ (vs : List Nat) (j : Nat), (L2.wipe σ vs)[j]? = if j ∈ vs ∧ j < σ.length then some none else σ[j]?
  | [], j => by simp [L2.wipe]
  | v :: vs, j => by
    unfold L2.wipe
    by_cases hv : v = j
    · subst hv
      by_cases hl : v < σ.length
      · rw [List.getElem?_set_self (by rw [wipe_length]; exact hl), if_pos ⟨by simp, hl⟩]
      · rw [if_neg (by omega), List.getElem?_eq_none (by simp [wipe_length]; omega), List.getElem?_eq_none (by omega)]
    · rw [List.getElem?_set_ne hv, wipe_get σ vs j]
      have : (j ∈ v :: vs ∧ j < σ.length) ↔ (j ∈ vs ∧ j < σ.length) := by
        rw [List.mem_cons]
        constructor
        · rintro ⟨a | a, b⟩
          · exact absurd a.symm hv
          · exact ⟨a, b⟩
        · rintro ⟨a, b⟩; exact ⟨.inr a, b⟩
      by_cases q : j ∈ vs ∧ j < σ.length
      · rw [if_pos q, if_pos (this.mpr q)]
      · rw [if_neg q, if_neg (fun z => q (this.mp z))]
theorem wipe_set {σ : L2.St} {vs : List Nat} {i : Nat} {x : Option V} (h : i ∈ vs) : L2.wipe (σ.set i x) vs = L2.wipe σ vs := by
  apply List.ext_getElem?
  intro j
  rw [wipe_get, wipe_get, List.length_set]
  by_cases hj : j ∈ vs ∧ j < σ.length
  · rw [if_pos hj, if_pos hj]
  · rw [if_neg hj, if_neg hj]
    by_cases hi : i = j
    · subst hi
      have : ¬ i < σ.length := fun z => hj ⟨h, z⟩
      rw [List.getElem?_eq_none (by simpa using this), List.getElem?_eq_none (by omega)]
    · rw [List.getElem?_set_ne hi]
theorem wipe_wipe (σ : L2.St) (vs : List Nat) : L2.wipe (L2.wipe σ vs) vs = L2.wipe σ vs := by
  apply List.ext_getElem?
  intro j
  rw [wipe_get, wipe_length, wipe_get]
  split <;> simp_all
/-- a target's reading and its function, that store only to the told slots -/
structure GC (G : Gx) (gg : TG) (g : GDen) (vs : List Nat) : Prop where
  imp : ∀ v σ H Q, tG G g v σ H Q → gg v σ H fun σ' H' => L2.wipe σ' vs = L2.wipe σ vs ∧ Q σ' H'
theorem GC.imp' {G : Gx} {gg : TG} {g : GDen} {vs : List Nat} (h : GC G gg g vs) {v : V} {σ : L2.St} {H : Hp} {Q : L2.St → Hp → Prop} (q : tG G g v (L2.wipe σ vs) H Q) : gg v (L2.wipe σ vs) H fun σ' H' => L2.wipe σ' vs = L2.wipe σ vs ∧ Q σ' H' := by
  have z := h.imp v (L2.wipe σ vs) H Q q
  rw [wipe_wipe] at z
  exact z
theorem gc_name {G : Gx} {i : Nat} {vs : List Nat} (h : i ∈ vs) : GC G (L2.gName i) (gName i) vs := ⟨fun v σ H Q h' => by
  obtain ⟨ρ, env, S, d, env', S', he, hs, hr, hf, q⟩ := h'
  cases hf
  exact ⟨wipe_set h, q ρ _ H (Step.refl _ _) (he.set hr i) hs⟩⟩
noncomputable section
open Classical
/-- the turns of [elt for tg in it if ..] -/
def lcRun (src : List (Nat × Ob)) (tg : GDen) (t : TDen) (f : Den) (env : En) : List D → List D → Sto → Option (List D × Sto)
  | [], acc, S => if srcOk src S then some (acc, S) else none
  | d :: ds, acc, S => if srcOk src S then (tg d env S).bind fun p => (t p.1 p.2).bind fun q => if q.1 = true then (f p.1 q.2).bind fun r => if acc.length < sizeLine then lcRun src tg t f env ds (acc ++ [r.1]) r.2 else none else lcRun src tg t f env ds acc q.2 else none
def uLc (it : IDen) (tg : GDen) (t : TDen) (f : Den) (vs : List Nat) : ADen := fun env S => (it env S).bind fun p => lcRun p.1.src tg t f (wipeE env vs) p.1.ds [] p.2
end
def tYes : TDen := fun _ S => some (true, S)
structure MTs (X : Cx) (es : List Expr) (f : TDen) : Prop where
  pts : PTs X es (tT (gx X) f)
theorem PTs.weak {X : Cx} {e : List Expr} {t t' : TT} (h : PTs X e t) (hw : ∀ σ H Q, t' σ H Q → t σ H Q) : PTs X e t' := ⟨fun pins s σ H Q I q => h.run pins s σ H Q I (hw σ H Q q)⟩
section
variable {X : Cx}
theorem mts_one {c : Expr} {t : TDen} (h : MT X c t) : MTs X [c] t := ⟨pts_one h.pt⟩
end
section
variable {X : Cx} {elt tg iter : Expr} {ifs : List Expr} {scope : Scope} {own : List (Str × Nat)} {pos : Pos} {it : IDen} {g : GDen} {t : TDen} {f : Den}
/-- the reading of a comprehension by the turns -/
theorem lc_imp {G : Gx} {gg : TG} {vs : List Nat} (hg : GC G gg g vs) {σ : L2.St} {H : Hp} {Q : VK} (h : tU G (uLc it g t f vs) σ H Q) : tLc (tI G it) gg (tT G t) (tE G f) vs σ H Q := by
  obtain ⟨ρ, env, S, ds, S', he, hs, hf, q⟩ := h
  obtain ⟨p, S1, h1, hf⟩ := bind2 hf
  refine ⟨ρ, env, S, p, S1, he, hs, h1, fun ρ1 H1 J st1 sr1 ir D hD => ?_⟩
  have he1 := (he.step st1).wiped vs
  have hD0 : H D = none := st1.free sr1 hD
  refine ⟨fun i m H2 => m = p.ds.length - i ∧ i ≤ p.ds.length ∧ ∃ ρ2 S2 acc vs', Step ρ1 H1 ρ2 H2 ∧ (D, true) ∉ ρ2 ∧ SR G ρ2 H2 S2 ∧ H2 D = some (.lst vs') ∧ RpL G ρ2 H2 acc vs' ∧ lcRun p.src g t f (wipeE env vs) (p.ds.drop i) acc S2 = some (ds, S'),
    ⟨p.ds.length, by simp, Nat.zero_le _, ρ1, S1, [], [], Step.untracked hD, sr1.fresh hD, sr1.untracked hD, upd_same, RpL.nil, hf⟩, ?_⟩
  rintro i m H2 ⟨rfl, hi, ρ2, S2, acc, vs', st12, nD2, sr2, hD2, ra, hr⟩
  by_cases hlt : i < p.ds.length
  · rw [List.drop_eq_getElem_cons hlt] at hr
    unfold lcRun at hr
    split at hr
    · rename_i so
      obtain ⟨env3, S3, h3, hr⟩ := bind2 hr
      obtain ⟨b, S4, h4, hr⟩ := bind2 hr
      refine .inr ⟨ir.goes i ρ2 H2 S2 hlt st12 sr2 so, fun H2 => i + 1 ≤ p.ds.length ∧ ∃ ρ2 S2 acc vs', Step ρ1 H1 ρ2 H2 ∧ (D, true) ∉ ρ2 ∧ SR G ρ2 H2 S2 ∧ H2 D = some (.lst vs') ∧ RpL G ρ2 H2 acc vs' ∧ lcRun p.src g t f (wipeE env vs) (p.ds.drop (i + 1)) acc S2 = some (ds, S'),
        fun H' w => ⟨p.ds.length - (i + 1), by omega, rfl, w.1, w.2⟩, fun x H3 y => ?_⟩
      obtain ⟨st3, sr3, d, hd, rd⟩ := ir.yields i ρ2 H2 S2 x H3 hlt st12 sr2 so y
      have ed : p.ds[i] = d := Option.some.inj ((List.getElem?_eq_getElem hlt).symm.trans hd)
      rw [ed] at h3
      refine hg.imp' ⟨ρ2, wipeE env vs, S2, d, env3, S3, he1.step (st12.trans st3), sr3, rd, h3, fun ρ4 σ4 H4 st4 he4 sr4 => ?_⟩
      refine tT.bind he4 sr4 h4 fun ρ5 H5 st5 he5 sr5 => ?_
      have st25 : Step ρ2 H2 ρ5 H5 := (st3.trans st4).trans st5
      obtain ⟨hD5, nD5⟩ := st25.keepU hD2 nD2
      cases b with
      | true =>
        simp only [if_true] at hr ⊢
        obtain ⟨r, S6, h6, hr⟩ := bind2 hr
        refine tE.bind he5 sr5 h6 fun ρ6 v6 H6 st6 he6 sr6 r6 => ?_
        simp only at hr
        split at hr
        · rename_i hz
          obtain ⟨hD6, nD6⟩ := st6.keepU hD5 nD5
          have ra6 := ra.step (st25.trans st6)
          refine ⟨vs', hD6, by rw [ra6.length]; exact hz, by omega, ρ6, S6, acc ++ [r], vs' ++ [v6], ?_, nD6, ?_, upd_same, ?_, hr⟩
          all_goals (have stw : Mon ρ6 H6 ρ6 (upd H6 D (.lst (vs' ++ [v6]))) := ⟨List.prefix_refl _, fun b xs e => by
              have : b ≠ D := by rintro rfl; rw [hD6] at e; cases e
              rw [upd_ne this]; exact e, fun b x y e => by
              have : b ≠ D := by rintro rfl; rw [hD6] at e; cases e
              rw [upd_ne this]; exact e⟩)
          · have sa := st12.trans (st25.trans st6)
            refine ⟨⟨sa.pre, fun b xs e => stw.tup _ _ (sa.tup _ _ e), fun b x y e => stw.frz _ _ _ (sa.frz _ _ _ e)⟩, sa.new, fun b o e hb => ?_⟩
            have hbD : b ≠ D := by rintro rfl; rw [hD] at e; cases e
            rw [upd_ne hbD]; exact sa.oth b o e hb
          · exact ⟨sr6.len, fun l o a e1 e2 => ObR.over stw (fun hm x hx => by
              have : a.1 ≠ D := by
                rintro rfl
                have := sr6.mu l o a e1 e2
                rw [hm] at this
                exact nD6 (List.mem_of_getElem? (by rw [e2]; exact congrArg some (Prod.ext rfl this.symm)))
              rw [upd_ne this]; exact hx) (sr6.obj l o a e1 e2), sr6.mu, sr6.inj⟩
          · exact RpL.mon stw (ra6.append (RpL.one r6))
        · cases hr
      | false =>
        simp only [Bool.false_eq_true, if_false] at hr ⊢
        exact ⟨by omega, ρ5, S4, acc, vs', st12.trans st25, nD5, sr5, hD5, ra.step st25, hr⟩
    · cases hr
  · have e : i = p.ds.length := by omega
    subst e
    rw [List.drop_eq_nil_of_le (Nat.le_refl _)] at hr
    unfold lcRun at hr
    split at hr
    · rename_i so
      cases hr
      exact .inl ⟨ir.stops ρ2 H2 S' st12 sr2 so, q ρ2 D vs' H2 (st1.trans st12) sr2 ra hD2 hD0 nD2⟩
    · cases hr
end
end ML
namespace ML
open PySem PySem.Spec PyProof.Rows L2
section
variable {X : Cx} {elt tg iter : Expr} {ifs : List Expr} {scope : Scope} {pos : Pos} {it : IDen} {g : GDen} {t : TDen} {f : Den}
theorem mu_lc (own : List (Str × Nat)) {gg : TG} (hc : X.calm = true) (hN : X.N.Nodup) (hi : MI X tg iter it) (ok : BlkOk X.N X.env.scope scope own)
    (hg : ∀ (s : Shared) (H : Hp) (C : Addr) (cl : List (Str × Addr)) (fp : List Addr), PG (X.blk s H scope (compEnvC scope cl C X.env) fp) tg gg) (hgc : GC (gx X) gg g (own.map (·.2)))
    (ht : ∀ (s : Shared) (H : Hp) (C : Addr) (cl : List (Str × Addr)) (fp : List Addr), MTs (X.blk s H scope (compEnvC scope cl C X.env) fp) ifs t)
    (he : ∀ (s : Shared) (H : Hp) (C : Addr) (cl : List (Str × Addr)) (fp : List Addr), ME (X.blk s H scope (compEnvC scope cl C X.env) fp) elt f) (hs : ∀ x, foldedSetIterable iter X.env x = pure x := by intro _; rfl) :
    MU X (.ListComp elt [⟨tg, iter, ifs, 0⟩] scope pos) (uLc it g t f (own.map (·.2))) :=
  ⟨PE.weak (pe_lc hc hN hi.pi ok hg (fun s H C cl fp => (ht s H C cl fp).pts) (fun s H C cl fp => (he s H C cl fp).pe) hs) fun _ _ _ h => lc_imp hgc h⟩
end
end ML

namespace ML
open PySem PySem.Spec PyProof.Rows L2

/-! ### statements -/
inductive Fl where
  | nx | rt (d : D) | bk | ct
abbrev SDen := En → Sto → Option (Fl × En × Sto)
/-- what is wanted behind a flow -/
def Wnt (G : Gx) (De : Ends) (ρ : List Lo) (S' : Sto) (env' : En) (fl : Fl) (σ' : L2.St) (H' : Hp) : Prop := match fl with
  | .nx => De.nx σ' H'
  | .bk => De.bk σ' H'
  | .ct => De.ct σ' H'
  | .rt d => ∀ v, Rp G ρ H' d v → De.rt v H'
def tS (G : Gx) (f : SDen) : TS := fun De σ H => ∃ ρ env S fl env' S', EnR G ρ H env σ ∧ SR G ρ H S ∧ f env S = some (fl, env', S') ∧ ∀ ρ' σ' H', Step ρ H ρ' H' → EnR G ρ' H' env' σ' → SR G ρ' H' S' → Wnt G De ρ' S' env' fl σ' H'
structure MS (X : Cx) (st : Stmt) (f : SDen) : Prop where
  ps : PS X st (tS (gx X) f)
structure MSs (X : Cx) (st : List Stmt) (f : SDen) : Prop where
  pss : PSs X st (tS (gx X) f)
theorem PS.weak {X : Cx} {e : Stmt} {t t' : TS} (h : PS X e t) (hw : ∀ D σ H, t' D σ H → t D σ H) : PS X e t' := ⟨fun pins s σ H Q I q => h.run pins s σ H Q I (hw Q σ H q)⟩
theorem PSs.weak {X : Cx} {e : List Stmt} {t t' : TS} (h : PSs X e t) (hw : ∀ D σ H, t' D σ H → t D σ H) : PSs X e t' := ⟨fun pins s σ H Q I q => h.run pins s σ H Q I (hw Q σ H q)⟩
theorem tS.bind {G : Gx} {f : SDen} {De : Ends} {σ : L2.St} {H : Hp} {ρ : List Lo} {env env' : En} {S S1 : Sto} {fl : Fl} (he : EnR G ρ H env σ) (hs : SR G ρ H S) (h : f env S = some (fl, env', S1))
    (k : ∀ ρ' σ' H', Step ρ H ρ' H' → EnR G ρ' H' env' σ' → SR G ρ' H' S1 → Wnt G De ρ' S1 env' fl σ' H') : tS G f De σ H := ⟨ρ, env, S, fl, env', S1, he, hs, h, k⟩
theorem bind3 {α β δ γ : Type} {o : Option (α × β × δ)} {k : α × β × δ → Option γ} {r : γ} (h : o.bind k = some r) : ∃ x y z, o = some (x, y, z) ∧ k (x, y, z) = some r := by
  obtain ⟨⟨x, y, z⟩, a, b⟩ := Option.bind_eq_some_iff.mp h
  exact ⟨x, y, z, a, b⟩
def sNil : SDen := fun env S => some (.nx, env, S)
def sCons (f g : SDen) : SDen := fun env S => (f env S).bind fun p => match p.1 with
  | .nx => g p.2.1 p.2.2
  | _ => some p
def sAsg (f : Den) (g : GDen) : SDen := fun env S => (f env S).bind fun p => (g p.1 env p.2).bind fun q => some (.nx, q.1, q.2)
def sAsgU (f : ADen) (i : Nat) : SDen := fun env S => (f env S).bind fun p => some (.nx, env.set i (some (.loc p.2.length)), p.2 ++ [.lst p.1])
def sPar (i j : Nat) (f : ADen) : SDen := fun env S => (f env S).bind fun p => match p.1 with
  | [a, b] => some (.nx, (env.set i (some a)).set j (some b), p.2)
  | _ => none
def sPar3 (i j l : Nat) (f : ADen) : SDen := fun env S => (f env S).bind fun p => match p.1 with
  | [a, b, c] => some (.nx, ((env.set i (some a)).set j (some b)).set l (some c), p.2)
  | _ => none
def sRet (f : Den) : SDen := fun env S => (f env S).bind fun p => some (.rt p.1, env, p.2)
def sRetN : SDen := fun env S => some (.rt .non, env, S)
def sExpr (f : Den) : SDen := fun env S => (f env S).bind fun p => some (.nx, env, p.2)
def sIf (t : TDen) (f g : SDen) : SDen := fun env S => (t env S).bind fun p => if p.1 = true then f env p.2 else g env p.2
def sBk : SDen := fun env S => some (.bk, env, S)
def sCt : SDen := fun env S => some (.ct, env, S)
def sAug (i : Nat) (g : Op2) (f : Den) : SDen := fun env S => match env[i]? with
  | some (some x) => (f env S).bind fun p => (g x p.1 p.2).bind fun q => some (.nx, env.set i (some q.1), q.2)
  | _ => none
/-- while, at most n tests -/
def wRun (t : TDen) (b : SDen) : Nat → En → Sto → Option (Fl × En × Sto)
  | 0, _, _ => none
  | n + 1, env, S => (t env S).bind fun p => if p.1 = true then (b env p.2).bind fun q => match q.1 with
      | .nx => wRun t b n q.2.1 q.2.2
      | .ct => wRun t b n q.2.1 q.2.2
      | .bk => some (.nx, q.2.1, q.2.2)
      | .rt d => some (.rt d, q.2.1, q.2.2)
    else some (.nx, env, p.2)
noncomputable section
open Classical
def sWhile (t : TDen) (b : SDen) : SDen := fun env S => if h : ∃ n, (wRun t b n env S).isSome = true then wRun t b (Classical.choose h) env S else none
def fRun (src : List (Nat × Ob)) (g : GDen) (b : SDen) : List D → En → Sto → Option (Fl × En × Sto)
  | [], env, S => if srcOk src S then some (.nx, env, S) else none
  | d :: ds, env, S => if srcOk src S then (g d env S).bind fun p => (b p.1 p.2).bind fun q => match q.1 with
      | .nx => fRun src g b ds q.2.1 q.2.2
      | .ct => fRun src g b ds q.2.1 q.2.2
      | .bk => some (.nx, q.2.1, q.2.2)
      | .rt d => some (.rt d, q.2.1, q.2.2)
    else none
def sFor (it : IDen) (g : GDen) (b : SDen) : SDen := fun env S => (it env S).bind fun p => fRun p.1.src g b p.1.ds env p.2
end
theorem wRun_mono {t : TDen} {b : SDen} : ∀ {n : Nat} {env : En} {S : Sto} {r : Fl × En × Sto}, wRun t b n env S = some r → wRun t b (n + 1) env S = some r
  | 0, _, _, _, h => by cases h
  | n + 1, env, S, r, h => by
    rw [wRun] at h ⊢
    obtain ⟨x, S1, h1, h2⟩ := bind2 h
    rw [h1]
    simp only [Option.bind_some]
    cases x with
    | true =>
      simp only [if_true] at h2 ⊢
      obtain ⟨fl, e, S2, h3, h4⟩ := bind3 h2
      rw [h3]
      simp only [Option.bind_some]
      cases fl with
      | nx => exact wRun_mono h4
      | ct => exact wRun_mono h4
      | bk => exact h4
      | rt d => exact h4
    | false => simpa using h2
theorem wRun_le {t : TDen} {b : SDen} {n m : Nat} (hl : n ≤ m) {env : En} {S : Sto} {r : Fl × En × Sto} (h : wRun t b n env S = some r) : wRun t b m env S = some r := by
  induction hl with
  | refl => exact h
  | step _ ih => exact wRun_mono ih
theorem sWhile_of {t : TDen} {b : SDen} {n : Nat} {env : En} {S : Sto} {r : Fl × En × Sto} (h : wRun t b n env S = some r) : sWhile t b env S = some r := by
  unfold sWhile
  have hx : ∃ n, (wRun t b n env S).isSome = true := ⟨n, by rw [h]; rfl⟩
  rw [dif_pos hx]
  obtain ⟨r', e⟩ := Option.isSome_iff_exists.mp (Classical.choose_spec hx)
  rw [e]
  have a := wRun_le (Nat.le_max_left (Classical.choose hx) n) e
  have c := wRun_le (Nat.le_max_right (Classical.choose hx) n) h
  rw [a] at c
  exact c
theorem sWhile_some {t : TDen} {b : SDen} {env : En} {S : Sto} {r : Fl × En × Sto} (h : sWhile t b env S = some r) : ∃ n, wRun t b n env S = some r := by
  unfold sWhile at h
  split at h
  · exact ⟨_, h⟩
  · cases h
/-- one turn of a while -/
theorem sWhile_eq (t : TDen) (b : SDen) (env : En) (S : Sto) : sWhile t b env S = (t env S).bind fun p => if p.1 = true then (b env p.2).bind fun q => match q.1 with
      | .nx => sWhile t b q.2.1 q.2.2
      | .ct => sWhile t b q.2.1 q.2.2
      | .bk => some (.nx, q.2.1, q.2.2)
      | .rt d => some (.rt d, q.2.1, q.2.2)
    else some (.nx, env, p.2) := by
  apply Option.ext
  intro r
  constructor
  · intro h
    obtain ⟨n, h⟩ := sWhile_some h
    cases n with
    | zero => cases h
    | succ n =>
      rw [wRun] at h
      obtain ⟨x, S1, h1, h2⟩ := bind2 h
      rw [h1]
      simp only [Option.bind_some]
      cases x with
      | true =>
        simp only [if_true] at h2 ⊢
        obtain ⟨fl, e, S2, h3, h4⟩ := bind3 h2
        rw [h3]
        simp only [Option.bind_some]
        cases fl with
        | nx => exact sWhile_of h4
        | ct => exact sWhile_of h4
        | bk => exact h4
        | rt d => exact h4
      | false => simpa using h2
  · intro h
    obtain ⟨x, S1, h1, h2⟩ := bind2 h
    cases x with
    | true =>
      simp only [if_true] at h2
      obtain ⟨fl, e, S2, h3, h4⟩ := bind3 h2
      have fin : ∀ {n}, (match fl with
        | .nx => wRun t b n e S2
        | .ct => wRun t b n e S2
        | .bk => some (.nx, e, S2)
        | .rt d => some (.rt d, e, S2)) = some r → sWhile t b env S = some r := by
        intro n hn
        refine sWhile_of (n := n + 1) ?_
        rw [wRun, h1]
        simp only [Option.bind_some, if_true]
        rw [h3]
        simp only [Option.bind_some]
        exact hn
      cases fl with
      | nx => obtain ⟨n, h5⟩ := sWhile_some h4; exact fin (n := n) h5
      | ct => obtain ⟨n, h5⟩ := sWhile_some h4; exact fin (n := n) h5
      | bk => exact fin (n := 0) h4
      | rt d => exact fin (n := 0) h4
    | false =>
      refine sWhile_of (n := 1) ?_
      rw [wRun, h1]
      simpa using h2

section
variable {X : Cx} {pos : Pos} {st : Stmt} {rest : List Stmt} {f g b : SDen} {e c : Expr} {fe : Den} {fu : ADen}
theorem mss_nil : MSs X [] sNil := ⟨PSs.weak pss_nil fun De σ H h => by
  obtain ⟨ρ, env, S, fl, env', S', he, hs, hf, q⟩ := h
  cases hf
  exact q ρ σ H (Step.refl _ _) he hs⟩
theorem mss_cons (h1 : MS X st f) (h2 : MSs X rest g) : MSs X (st :: rest) (sCons f g) := by
  refine ⟨PSs.weak (pss_cons h1.ps h2.pss) fun De σ H h => ?_⟩
  obtain ⟨ρ, env, S, fl, env', S', he, hs, hf, q⟩ := h
  obtain ⟨x, e1, S1, h1, h2⟩ := bind3 hf
  refine tS.bind he hs h1 fun ρ1 σ1 H1 st1 he1 sr1 => ?_
  cases x with
  | nx => exact tS.bind he1 sr1 h2 fun ρ2 σ2 H2 st2 he2 sr2 => q ρ2 σ2 H2 (st1.trans st2) he2 sr2
  | bk => cases h2; exact q ρ1 σ1 H1 st1 he1 sr1
  | ct => cases h2; exact q ρ1 σ1 H1 st1 he1 sr1
  | rt d => cases h2; exact q ρ1 σ1 H1 st1 he1 sr1
theorem ms_asg {tg : Expr} {g : GDen} (he : ME X e fe) (hg : MG X tg g) (hs : swapsWithSole [tg] e pos.line X.env = pure false := by rfl) (hw : swappedStores [tg] e X.env = pure none := by rfl)
    (h1 : (assignEach [tg] X.env).map (·.2) = [assign tg X.env] := by rfl) : MS X (.Assign [tg] e pos) (sAsg fe g) := by
  refine ⟨PS.weak (ps_asg he.pe hg.pg hs hw h1) fun De σ H h => ?_⟩
  obtain ⟨ρ, env, S, fl, env', S', he, hs, hf, q⟩ := h
  obtain ⟨x, S1, h1, h2⟩ := bind2 hf
  obtain ⟨env2, S2, h3, h4⟩ := bind2 h2
  cases h4
  exact tE.bind he hs h1 fun ρ1 v1 H1 st1 he1 sr1 r1 => tG.bind he1 sr1 r1 h3 fun ρ2 σ2 H2 st2 he2 sr2 => q ρ2 σ2 H2 (st1.trans st2) he2 sr2
theorem ms_set (i : Nat) {x : Str} {pos' : Pos} (hN : X.N.Nodup) (he : ME X e fe) (hi : X.N[i]? = some x := by rfl) (hx : Loc X.env.scope x := by first | exact Or.inl rfl | exact Or.inr rfl) (hs : swapsWith e (some (.Name x pos')) pos.line X.env = pure false := by rfl) (hf : X.fn x = true ∨ X.env.scope.names.lookup x = some .local := by first | exact .inl rfl | exact .inr rfl) :
    MS X (.Assign [.Name x pos'] e pos) (sAsg fe (gName i)) := by
  refine ⟨PS.weak (ps_set hN hi hx he.pe hs hf) fun De σ H h => ?_⟩
  obtain ⟨ρ, env, S, fl, env', S', he, hs, hf, q⟩ := h
  obtain ⟨y, S1, h1, h2⟩ := bind2 hf
  obtain ⟨env2, S2, h3, h4⟩ := bind2 h2
  cases h4
  cases h3
  exact tE.bind he hs h1 fun ρ1 v1 H1 st1 he1 sr1 r1 => q ρ1 _ H1 st1 (he1.set r1 i) sr1
theorem ms_par (i j : Nat) {x y : Str} {a b : Expr} {px py pt : Pos} {kt k2 pt2} (hc : X.calm = true) (hN : X.N.Nodup) (ha : MA X [a, b] fu) (hi : X.N[i]? = some x := by rfl) (hj : X.N[j]? = some y := by rfl) (hij : i ≠ j := by decide)
    (hx : X.env.scope.names.lookup x = some .local := by rfl) (hy : X.env.scope.names.lookup y = some .local := by rfl)
    (hw : swappedStores [.Tuple [.Name x px, .Name y py] kt pt] (.Tuple [a, b] k2 pt2) X.env = pure (some [x, y]) := by rfl)
    (hs : swapsWithSole [.Tuple [.Name x px, .Name y py] kt pt] (.Tuple [a, b] k2 pt2) pos.line X.env = pure false := by rfl) :
    MS X (.Assign [.Tuple [.Name x px, .Name y py] kt pt] (.Tuple [a, b] k2 pt2) pos) (sPar i j fu) := by
  refine ⟨PS.weak (ps_par hc hN hi hj hij hx hy ha.pa hw hs) fun De σ H h => ?_⟩
  obtain ⟨ρ, env, S, fl, env', S', he, hs, hf, q⟩ := h
  obtain ⟨ds, S1, h1, h2⟩ := bind2 hf
  refine tA.bind he hs h1 fun ρ1 vs H1 st1 he1 sr1 r1 => ?_
  simp only at h2
  split at h2
  · rename_i d1 d2
    cases h2
    obtain ⟨v, u, rfl, rv, ru⟩ := two_of r1
    exact ⟨v, u, rfl, q ρ1 _ H1 st1 ((he1.set rv i).set ru j) sr1⟩
  · cases h2
theorem ms_ret (he : ME X e fe) : MS X (.Return (some e) pos) (sRet fe) := by
  refine ⟨PS.weak (ps_ret he.pe) fun De σ H h => ?_⟩
  obtain ⟨ρ, env, S, fl, env', S', he, hs, hf, q⟩ := h
  obtain ⟨y, S1, h1, h2⟩ := bind2 hf
  cases h2
  exact tE.bind he hs h1 fun ρ1 v1 H1 st1 he1 sr1 r1 => q ρ1 σ H1 st1 he1 sr1 v1 r1
theorem ms_if {t : TDen} {a b : List Stmt} (hc : MT X c t) (ha : MSs X a f) (hb : MSs X b g) : MS X (.If c a b pos) (sIf t f g) := by
  refine ⟨PS.weak (ps_if hc.pt ha.pss hb.pss) fun De σ H h => ?_⟩
  obtain ⟨ρ, env, S, fl, env', S', he, hs, hf, q⟩ := h
  obtain ⟨x, S1, h1, h2⟩ := bind2 hf
  refine tT.bind he hs h1 fun ρ1 H1 st1 he1 sr1 => ?_
  cases x with
  | true => exact tS.bind he1 sr1 h2 fun ρ2 σ2 H2 st2 he2 sr2 => q ρ2 σ2 H2 (st1.trans st2) he2 sr2
  | false => exact tS.bind he1 sr1 h2 fun ρ2 σ2 H2 st2 he2 sr2 => q ρ2 σ2 H2 (st1.trans st2) he2 sr2
theorem ms_while {t : TDen} {body : List Stmt} (hp : PassesOwn (model X.prog X.w) X.A X.env X.xe) (hc : MT X c t) (hb : MSs X body b) : MS X (.While c body [] pos) (sWhile t b) := by
  refine ⟨PS.weak (ps_while hp hc.pt hb.pss) fun De σ H h => ?_⟩
  obtain ⟨ρ, env, S, fl, env', S', he, hs, hf, q⟩ := h
  obtain ⟨n, hn⟩ := sWhile_some hf
  refine ⟨fun m σ1 H1 => ∃ ρ1 env1 S1, Step ρ H ρ1 H1 ∧ EnR (gx X) ρ1 H1 env1 σ1 ∧ SR (gx X) ρ1 H1 S1 ∧ wRun t b m env1 S1 = some (fl, env', S'), ⟨n, ρ, env, S, Step.refl _ _, he, hs, hn⟩, ?_⟩
  rintro m σ1 H1 ⟨ρ1, env1, S1, st1, he1, sr1, hr⟩
  cases m with
  | zero => cases hr
  | succ m =>
    rw [wRun] at hr
    obtain ⟨x, S2, h1, h2⟩ := bind2 hr
    refine tT.bind he1 sr1 h1 fun ρ2 H2 st2 he2 sr2 => ?_
    cases x with
    | true =>
      simp only [if_true] at h2 ⊢
      obtain ⟨fl2, env2, S3, h3, h4⟩ := bind3 h2
      refine ⟨fun σ' H' => ∃ ρ1 env1 S1, Step ρ H ρ1 H' ∧ EnR (gx X) ρ1 H' env1 σ' ∧ SR (gx X) ρ1 H' S1 ∧ wRun t b m env1 S1 = some (fl, env', S'), fun σ' H' w => ⟨m, Nat.lt_succ_self _, w⟩, tS.bind he2 sr2 h3 fun ρ3 σ3 H3 st3 he3 sr3 => ?_⟩
      have st := (st1.trans st2).trans st3
      cases fl2 with
      | nx => exact ⟨ρ3, env2, S3, st, he3, sr3, h4⟩
      | ct => exact ⟨ρ3, env2, S3, st, he3, sr3, h4⟩
      | bk => cases h4; exact q ρ3 σ3 H3 st he3 sr3
      | rt d => cases h4; exact q ρ3 σ3 H3 st he3 sr3
    | false =>
      cases h2
      exact q ρ2 σ1 H2 (st1.trans st2) he2 sr2
theorem ms_for {iter tg : Expr} {body : List Stmt} {it : IDen} {g : GDen} (hp : PassesOwn (model X.prog X.w) X.A X.env X.xe) (hc : X.calm = true) (hi : MI X tg iter it) (hg : MG X tg g) (hb : MSs X body b)
    (hs : ∀ x, foldedSetIterable iter X.env x = pure x := by intro _; rfl) : MS X (.For tg iter body [] pos) (sFor it g b) := by
  refine ⟨PS.weak (ps_for hp hc hi.pi hg.pg hb.pss hs) fun De σ H h => ?_⟩
  obtain ⟨ρ, env, S, fl, env', S', he, hs, hf, q⟩ := h
  obtain ⟨p, S1, h1, hf⟩ := bind2 hf
  refine ⟨ρ, env, S, p, S1, he, hs, h1, fun ρ1 H1 J st1 sr1 ir => ?_⟩
  have he1 := he.step st1
  refine ⟨fun i m σ2 H2 => m = p.ds.length - i ∧ i ≤ p.ds.length ∧ ∃ ρ2 env2 S2, Step ρ1 H1 ρ2 H2 ∧ EnR (gx X) ρ2 H2 env2 σ2 ∧ SR (gx X) ρ2 H2 S2 ∧ fRun p.src g b (p.ds.drop i) env2 S2 = some (fl, env', S'),
    ⟨p.ds.length, by simp, Nat.zero_le _, ρ1, env, S1, Step.refl _ _, he1, sr1, hf⟩, ?_⟩
  rintro i m σ2 H2 ⟨rfl, hil, ρ2, env2, S2, st2, he2, sr2, hr⟩
  by_cases hlt : i < p.ds.length
  · rw [List.drop_eq_getElem_cons hlt] at hr
    unfold fRun at hr
    split at hr
    · rename_i so
      obtain ⟨env3, S3, h3, hr⟩ := bind2 hr
      obtain ⟨fl4, env4, S4, h4, hr⟩ := bind3 hr
      refine .inr ⟨ir.goes i ρ2 H2 S2 hlt st2 sr2 so, fun σ2 H2 => i + 1 ≤ p.ds.length ∧ ∃ ρ2 env2 S2, Step ρ1 H1 ρ2 H2 ∧ EnR (gx X) ρ2 H2 env2 σ2 ∧ SR (gx X) ρ2 H2 S2 ∧ fRun p.src g b (p.ds.drop (i + 1)) env2 S2 = some (fl, env', S'),
        fun σ' H' w => ⟨p.ds.length - (i + 1), by omega, rfl, w.1, w.2⟩, fun x H3 y => ?_⟩
      obtain ⟨st3, sr3, d, hd, rd⟩ := ir.yields i ρ2 H2 S2 x H3 hlt st2 sr2 so y
      have ed : p.ds[i] = d := Option.some.inj ((List.getElem?_eq_getElem hlt).symm.trans hd)
      rw [ed] at h3
      refine tG.bind (he2.step st3) sr3 rd h3 fun ρ4 σ4 H4 st4 he4 sr4 => ?_
      refine tS.bind he4 sr4 h4 fun ρ5 σ5 H5 st5 he5 sr5 => ?_
      have st25 := (st3.trans st4).trans st5
      cases fl4 with
      | nx => exact ⟨by omega, ρ5, env4, S4, st2.trans st25, he5, sr5, hr⟩
      | ct => exact ⟨by omega, ρ5, env4, S4, st2.trans st25, he5, sr5, hr⟩
      | bk => cases hr; exact q ρ5 σ5 H5 (st1.trans (st2.trans st25)) he5 sr5
      | rt d => cases hr; exact q ρ5 σ5 H5 (st1.trans (st2.trans st25)) he5 sr5
    · cases hr
  · have e : i = p.ds.length := by omega
    subst e
    rw [List.drop_eq_nil_of_le (Nat.le_refl _)] at hr
    unfold fRun at hr
    split at hr
    · rename_i so
      cases hr
      exact .inl ⟨ir.stops ρ2 H2 S' st2 sr2 so, q ρ2 σ2 H2 (st1.trans st2) he2 sr2⟩
    · cases hr
end
end ML

namespace ML
open PySem PySem.Spec PyProof.Rows L2

/-! ### what a call leaves -/
mutual
def D.bel (n : Nat) : D → Bool
  | .loc l => decide (l < n)
  | .tup ds => D.belL n ds
  | _ => true
def D.belL (n : Nat) : List D → Bool
  | [] => true
  | d :: ds => D.bel n d && D.belL n ds
end
def Ob.bel (n : Nat) : Ob → Bool
  | .lst xs => D.belL n xs
  | .rol xs => D.belL n xs
  | .dk kvs => kvs.all fun p => p.2.bel n
/-- what the call made and nobody reaches is forgotten -/
def gc (n : Nat) (d : D) (S : Sto) : D × Sto := if (d.bel n && (S.take n).all fun o => o.bel n) = true then (d, S.take n) else (d, S)
def mkFn (np ns : Nat) (body : SDen) : Fn := fun ds S => if ds.length = np then (body (ds.map some ++ List.replicate (ns - np) none) S).bind fun p => match p.1 with
  | .rt d => some (gc S.length d p.2.2)
  | .nx => some (gc S.length .non p.2.2)
  | _ => none
  else none
section
variable {G : Gx} {ρ ρ' : List Lo} {H H' : Hp}
theorem take_get {α : Type} {l : List α} {n i : Nat} (h : i < n) : (l.take n)[i]? = l[i]? := by
  rw [List.getElem?_take, if_pos h]
mutual
theorem Rp.cut {n : Nat} : ∀ {d : D} {v : V}, d.bel n = true → Rp G ρ H d v → Rp G (ρ.take n) H d v
  | .non, _, _, h => by simpa [Rp] using h
  | .bl _, _, _, h => by simpa [Rp] using h
  | .int _, _, _, h => by simpa [Rp] using h
  | .str _, _, _, h => by simpa [Rp] using h
  | .ty _, _, _, h => by simpa [Rp] using h
  | .fn _, _, _, h => by simpa [Rp] using h
  | .loc l, _, b, h => by
    simp only [Rp] at h ⊢
    obtain ⟨a, e, r⟩ := h
    exact ⟨a, by rw [take_get (by simpa [D.bel] using b)]; exact e, r⟩
  | .tup ds, _, b, h => by
    simp only [Rp] at h ⊢
    obtain ⟨a, vs, e, q, r⟩ := h
    exact ⟨a, vs, e, q, RpL.cut (by simpa [D.bel] using b) r⟩
theorem RpL.cut {n : Nat} : ∀ {ds : List D} {vs : List V}, D.belL n ds = true → RpL G ρ H ds vs → RpL G (ρ.take n) H ds vs
  | [], _, _, h => by simpa [RpL] using h
  | d :: ds, _, b, h => by
    simp only [D.belL, Bool.and_eq_true] at b
    simp only [RpL] at h ⊢
    obtain ⟨v, r, e, q, t⟩ := h
    exact ⟨v, r, e, Rp.cut b.1 q, RpL.cut b.2 t⟩
end
theorem RpK.cut {n : Nat} : ∀ {ds : List (Key × D)} {vs : List (Key × V)}, (ds.all fun p => p.2.bel n) = true → RpK G ρ H ds vs → RpK G (ρ.take n) H ds vs
  | [], _, _, h => by simpa [RpK] using h
  | d :: ds, _, b, h => by
    simp only [List.all_cons, Bool.and_eq_true] at b
    simp only [RpK] at h ⊢
    obtain ⟨v, r, e, q, t⟩ := h
    exact ⟨v, r, e, Rp.cut b.1 q, RpK.cut b.2 t⟩
theorem ObR.cut {n : Nat} {a : Addr} : ∀ {o : Ob}, o.bel n = true → ObR G ρ H a o → ObR G (ρ.take n) H a o
  | .lst ds, b, ⟨vs, e, r⟩ => ⟨vs, e, RpL.cut b r⟩
  | .rol ds, b, ⟨vs, e, r⟩ => ⟨vs, e, RpL.cut b r⟩
  | .dk kvs, b, ⟨vs, e, r⟩ => ⟨vs, e, RpK.cut b r⟩
theorem SR.cut {S : Sto} {n : Nat} (h : SR G ρ H S) (b : ((S.take n).all fun o => o.bel n) = true) : SR G (ρ.take n) H (S.take n) := by
  have hb := List.all_eq_true.mp b
  have lt : ∀ {l : Nat} {α : Type} {xs : List α} {x : α}, (xs.take n)[l]? = some x → l < n := fun {l α xs x} e => by
    have := (List.getElem?_eq_some_iff.mp e).1
    rw [List.length_take] at this
    omega
  refine ⟨by rw [List.length_take, List.length_take, h.len], fun l o a e e' => ?_, fun l o a e e' => ?_, fun l l' a e e' => ?_⟩
  · have hl := lt e
    have := hb o (List.mem_of_getElem? e)
    rw [take_get hl] at e e'
    exact ObR.cut this (h.obj l o a e e')
  · have hl := lt e
    rw [take_get hl] at e e'
    exact h.mu l o a e e'
  · rw [take_get (lt e)] at e
    rw [take_get (lt e')] at e'
    exact h.inj l l' a e e'
theorem Step.cut (s : Step ρ H ρ' H') : Step ρ H ρ H' := ⟨⟨List.prefix_refl _, s.tup, s.frz⟩, fun _ h => .inl h, s.oth⟩
theorem pre_take {α : Type} {l l' : List α} (h : l <+: l') : l'.take l.length = l := by
  obtain ⟨r, rfl⟩ := h
  simp
end
theorem rep_get {α : Type} {n i : Nat} {x y : α} (h : (List.replicate n x)[i]? = some y) : y = x := by
  have := List.mem_of_getElem? h
  exact (List.mem_replicate.mp this).2
theorem enr_start {G : Gx} {ρ : List Lo} {H : Hp} {ds : List D} {vs : List V} {N : List Str} (r : RpL G ρ H ds vs) : EnR G ρ H (ds.map some ++ List.replicate (N.length - ds.length) none) (L2.start N vs) := by
  have hl := r.length
  unfold L2.start
  refine ⟨by simp [hl], fun i d e => ?_⟩
  by_cases hi : i < ds.length
  · rw [List.getElem?_append_left (by simpa using hi), List.getElem?_map] at e
    have e1 : ds[i]? = some d := by
      cases q : ds[i]? with
      | none => rw [q] at e; cases e
      | some x => rw [q] at e; simpa using e
    obtain ⟨v, h1, h2⟩ := r.get e1
    refine ⟨v, ?_, h2⟩
    rw [List.getElem?_append_left (by simp [hl]; exact hi), List.getElem?_map, h1]
    rfl
  · rw [List.getElem?_append_right (by simpa using hi)] at e
    have := rep_get e
    cases this
section
variable {P : Program} {w : World} {K : PySem.W.Frag} {mg : Str → Option Value} {base : Heap} {x qual : Str} {params : Arguments} {body : List Stmt} {scope : Scope} {f : Addr} {fd : FuncData} {N ps : List Str} {k : Nat} {b : SDen}
/-- a def keeps what its body's function tells -/
theorem fn_ok (F : FunD K x qual params body scope [] [] f fd) (Sc : FnScope N ps scope)
    (h : ∀ (cdv : Value) (A : Around) (outer : List Env) (s : Shared) (H : Hp) (E : XK), Room k (A.deeper (envOfC qual scope s.heap.objs.size f cdv)) → MSs (cxOf CX0 P w K mg base N qual scope f cdv A outer s H E).nox body b) :
    FnOk P w K mg base CX0 (k + 1) f fd ps (spD ⟨K, mg⟩ (mkFn ps.length N.length b)) := by
  refine F.ok Sc (fun vs H Q E hs => ?_) (fun cdv A outer s H vs Q E hr hs => ?_)
  · obtain ⟨ρ, S, ds, d, S', hs, r, hf, q⟩ := hs
    unfold mkFn at hf
    split at hf
    · rename_i hl
      rw [r.length, hl]
    · cases hf
  · refine ⟨_, ((h cdv A outer s H E hr).pss).nox, ?_⟩
    obtain ⟨ρ, S, ds, d, S', hs, r, hf, q⟩ := hs
    unfold mkFn at hf
    split at hf
    · rename_i hl
      obtain ⟨fl, env', S1, h1, h2⟩ := bind3 hf
      have he := enr_start (N := N) r
      rw [hl] at he
      refine tS.bind he hs h1 fun ρ' σ' H' st he' sr => ?_
      have fin : ∀ {d0 : D} {v : V}, Rp ⟨K, mg⟩ ρ' H' d0 v → gc S.length d0 S1 = (d, S') → Q v H' := by
        intro d0 v rv hg
        unfold gc at hg
        split at hg
        · rename_i hb
          rw [Bool.and_eq_true] at hb
          cases hg
          have e : ρ'.take S.length = ρ := by rw [← hs.len]; exact pre_take st.pre
          have a1 := rv.cut hb.1
          have a2 := sr.cut hb.2
          rw [e] at a1 a2
          exact q ρ v H' st.cut a2 a1
        · cases hg
          exact q ρ' v H' st sr rv
      cases fl with
      | nx => exact fin (d0 := .non) rp_of_non (Option.some.inj h2)
      | rt d0 => exact fun v rv => fin rv (Option.some.inj h2)
      | bk => cases h2
      | ct => cases h2
    · cases hf
end
/-! ### isinstance -/
def tyN (S : Sto) : D → Option String
  | .non => some "NoneType"
  | .bl _ => some "bool"
  | .int _ => some "int"
  | .str _ => some "str"
  | .tup _ => some "tuple"
  | .loc l => match S[l]? with
    | some (.lst _) => some "list"
    | some (.rol _) => some "list"
    | some (.dk _) => some "dict"
    | none => none
  | _ => none
theorem tyN_ok {G : Gx} {ρ : List Lo} {H : Hp} {S : Sto} (hs : SR G ρ H S) {d : D} {v : V} {n : String} (r : Rp G ρ H d v) (e : tyN S d = some n) : TyX G.K H v (.type n) := by
  cases d with
  | non => cases e; rw [rp_non r]; exact .base .non
  | bl b => cases e; rw [rp_bl r]; exact .base (.bl _)
  | int b => cases e; rw [rp_int r]; exact .base (.int _)
  | str b => cases e; rw [rp_str r]; exact .base (.str _)
  | tup ds =>
    cases e
    obtain ⟨a, vs, rfl, q, _⟩ := rp_vs r
    rcases q with (q | ⟨o, q⟩) | ⟨o, its, n, q, c, _⟩
    · exact .base (.tup q)
    · exact .fTuple q
    · exact .kTuple q c
  | loc l =>
    obtain ⟨a, hr, rfl⟩ := rp_lc r
    simp only [tyN] at e
    split at e
    · rename_i xs e1; cases e
      obtain ⟨vs, q, _⟩ := hs.obj _ _ _ e1 hr
      exact .base (.lst q)
    · rename_i xs e1; cases e
      obtain ⟨vs, q, _⟩ := hs.obj _ _ _ e1 hr
      rcases q with ⟨o, q⟩ | ⟨o, its, n, q, c, _⟩
      · exact .base (.frz q)
      · exact .kList q c
    · rename_i xs e1; cases e
      obtain ⟨vs, q, _⟩ := hs.obj _ _ _ e1 hr
      exact .base (.dK q)
    · cases e
  | ty _ => cases e
  | fn _ => cases e
/-- of one class, or of one of several -/
def kitAll (t : String) : List D → Option Bool
  | [] => some false
  | .ty c :: r => (kitB t c).bind fun b => (kitAll t r).map fun b' => b || b'
  | _ => none
def bIsi : Fn
  | [d, .ty c], S => (tyN S d).bind fun t => (kitB t c).map fun b => (.bl b, S)
  | [d, .tup cs], S => (tyN S d).bind fun t => (kitAll t cs).map fun b => (.bl b, S)
  | _, _ => none
def rIsiA (K : PySem.W.Frag) : List V → Hp → VK → Prop := fun xs H Q => ∃ (x : V) (tp : Addr) (cs : List V) (t : Value) (us : List Value) (b : Bool), xs = [x, .ref tp] ∧ SqT K H tp cs ∧ Paired ClsV cs us ∧ TyX K H x t ∧ PySem.W.kitAny K t us = some b ∧ Q (.bl b) H
theorem call_isiA {X : Cx} : CallR X (.builtin "isinstance") (rIsiA X.K) := by
  intro pins s σ H xs us Q I r h
  obtain ⟨x, tp, cs, t, ws, b, rfl, hT, k, ty, e, q⟩ := h
  obtain ⟨u1, u2, rfl, r1, r2⟩ := vals2 r
  cases (show u2 = Value.ref tp from r2)
  obtain ⟨P, Z, p, hx⟩ := kit_of I r1 ty
  obtain ⟨its, rv, ⟨o, h1, h2, n, h3⟩, _⟩ := I.tuple hT
  have e3 := ClsV.all k rv
  subst e3
  obtain ⟨oc, od, dt, sl⟩ := o
  simp only at h2 h3
  subst h2 h3
  exact PySem.W.kia_tup Z I.kIn p h1 e hx fun tk => ⟨.bl b, H, I.tok tk, rfl, q⟩
theorem kitAll_ok {G : Gx} {ρ : List Lo} {H : Hp} {t : String} : ∀ {cs : List D} {vs : List V} {b : Bool}, kitAll t cs = some b → RpL G ρ H cs vs → ∃ us, Paired ClsV vs us ∧ PySem.W.kitAny G.K (.type t) us = some b
  | [], vs, b, e, r => by
    cases e
    simp only [RpL] at r
    subst r
    exact ⟨[], .nil, kitAny_nil⟩
  | d :: cs, vs, b, e, r => by
    cases d with
    | ty c =>
      simp only [kitAll] at e
      obtain ⟨b1, h1, h2⟩ := Option.bind_eq_some_iff.mp e
      obtain ⟨b2, h3, h4⟩ := Option.map_eq_some_iff.mp h2
      subst h4
      simp only [RpL] at r
      obtain ⟨v, tl, rfl, rv, rt⟩ := r
      have : v = .ty c := by simpa only [Rp] using rv
      subst this
      obtain ⟨us, p1, p2⟩ := kitAll_ok h3 rt
      refine ⟨.type c :: us, .cons (.ty c) p1, kitAny_cons (kit_ty h1) (fun z => ?_) (fun z => by rw [z]; rfl)⟩
      rw [z, p2]; rfl
    | _ => cases e

theorem imp_isi {G : Gx} : ImpC G bIsi (fun xs H Q => rIsi G.K xs H Q ∨ rIsiA G.K xs H Q) := by
  rintro xs H Q ⟨ρ, S, ds, d, S', hs, r, h, q⟩
  unfold bIsi at h
  split at h
  · rename_i d0 c0
    obtain ⟨t, h1, h2⟩ := Option.bind_eq_some_iff.mp h
    obtain ⟨b, h3, h4⟩ := Option.map_eq_some_iff.mp h2
    cases h4
    obtain ⟨v, u, rfl, rv, ru⟩ := two_of r
    have : u = .ty c0 := by simpa only [Rp] using ru
    subst this
    exact .inl ⟨v, _, _, _, b, rfl, .ty _, tyN_ok hs rv h1, kit_ty h3, q ρ _ H (Step.refl _ _) hs (rp_of_bl _)⟩
  · obtain ⟨t, h1, h2⟩ := Option.bind_eq_some_iff.mp h
    obtain ⟨b, h3, h4⟩ := Option.map_eq_some_iff.mp h2
    cases h4
    obtain ⟨v, u, rfl, rv, ru⟩ := two_of r
    obtain ⟨a, cs, rfl, q1, l1⟩ := rp_vs ru
    obtain ⟨us, p1, p2⟩ := kitAll_ok (G := G) h3 l1
    exact .inr ⟨v, a, cs, _, us, b, rfl, q1, p1, tyN_ok hs rv h1, p2, q ρ _ H (Step.refl _ _) hs (rp_of_bl _)⟩
  · cases h
theorem call_isiAll {X : Cx} : CallR X (.builtin "isinstance") (fun xs H Q => rIsi X.K xs H Q ∨ rIsiA X.K xs H Q) := call_isi.or call_isiA

/-! ### in -/
/-! ### == of new lists -/
/-- [..] == [..], a list that nobody else holds on either side -/
def eEqU (neg : Bool) (f g : ADen) : Den := fun env S => (f env S).bind fun p => (g env p.2).bind fun q => (toPL p.1).bind fun x => (toPL q.1).bind fun y =>
  if SeqAt.shaped (.list x) && SeqAt.shaped (.list y) then some (.bl (if neg = true then !PyData.eqv (.list x) (.list y) else PyData.eqv (.list x) (.list y)), q.2) else none
section
variable {X : Cx} {a b : Expr} {fa fb : ADen} {fd : Den} {pos : Pos}
end

/-! ### the law -/
theorem law_sp {G : Gx} {g : Fn} {ns : List Int} {H : Hp} {a : Addr} (hO : Only H) (hS : SqL G.K H a (ns.map V.int)) (h : ∃ S', g [.loc 0] [.rol (ns.map D.int)] = some (.bl true, S')) :
    spD G g [.ref a] H (fun v _ => v = .bl true) fun _ _ _ => False := by
  obtain ⟨S', e⟩ := h
  have rl : ∀ ns : List Int, RpL G [(a, false)] H (ns.map D.int) (ns.map V.int) := by
    intro ns
    induction ns with
    | nil => exact RpL.nil
    | cons n ns ih => exact RpL.cons (rp_of_int n) ih
  refine ⟨[(a, false)], [.rol (ns.map D.int)], [.loc 0], .bl true, S', ⟨rfl, fun l o b e1 e2 => ?_, fun l o b e1 e2 => ?_, fun l l' b e1 e2 => ?_⟩, ?_, e, fun ρ' v H' _ _ r => rp_bl r⟩
  · cases l with
    | zero => cases e1; cases e2; exact ⟨_, SqR.of hO hS, rl ns⟩
    | succ l => simp at e1
  · cases l with
    | zero => cases e1; cases e2; rfl
    | succ l => simp at e1
  · cases l with
    | zero => cases e1
    | succ l => simp at e1
  · refine RpL.one ?_
    simp only [Rp]
    exact ⟨(a, false), rfl, rfl⟩
end ML

namespace ML
open PySem PySem.Spec PyProof.Rows L2

/-- a def of the module, by its name -/
structure HasFn (P : Program) (w : World) (K : PySem.W.Frag) (mg : Str → Option Value) (base : Heap) (x : Str) (k : Nat) (g : Fn) : Prop where
  ex : ∃ (f : Addr) (fd : FuncData) (ps : List Str), mg x = some (.ref f) ∧ PySem.W.keepIn K (.ref f) = true ∧ Binds K fd ps [] ∧ FnOk P w K mg base CX0 k f fd ps (spD ⟨K, mg⟩ g)
def gAddI : Op2
  | .int i, .int j, S => some (.int (i + j), S)
  | _, _, _ => none
section
variable {X : Cx} {e a b c : Expr} {es : List Expr} {fe fa fb fc fo : Den} {fs fu : ADen} {x : Str} {p pos apos : Pos} {k k' i j l : Nat} {g : Fn}
theorem me_callF (F : HasFn X.prog X.w X.K X.mg X.base x k g) (hr : Room k' X.A) (ha : MA X (e :: es) fs) (hk : k ≤ k' := by decide) (hg : Gl X x := by rfl)
    (hdb : (x == ("__debug__" : Str)) = false := by decide) (he : starEach (e :: es) X.env = (false, eval e X.env) :: starEach es X.env := by rfl) (hpl : (backTo pos (starEach es X.env)).any (·.1) = false := by rfl) :
    ME X (.Call (.Name x p) (e :: es) [] pos) (eCall g fs) := by
  obtain ⟨f, fd, ps, h1, h2, h3, h4⟩ := F.ex
  exact me_call h4 hr hk hg h1 h2 h3 ha hdb he hpl
/-- a slice of a tuple, a list -/
def eSl (f : Den) (l h : ODen) : Den := fun env S => (f env S).bind fun p => (l env p.2).bind fun q => (h env q.2).bind fun r => match p.1 with
  | .tup xs => some (.tup (cutD xs q.1 r.1), r.2)
  | .loc m => (lsAt r.2 m).map fun xs => (.loc r.2.length, r.2 ++ [.lst (cutD xs q.1 r.1)])
  | _ => none
theorem mb_len (hm : X.mg "len" = none) (ha : MA X (e :: es) fs) (hg : Gl X "len" := by rfl) (he : starEach (e :: es) X.env = (false, eval e X.env) :: starEach es X.env := by rfl) (hpl : (backTo pos (starEach es X.env)).any (·.1) = false := by rfl) : ME X (.Call (.Name "len" p) (e :: es) [] pos) (eCall bLen fs) :=
  me_callB (call_len) imp_len hg hm (by decide +kernel) ha (by decide) (by decide) he hpl
theorem mb_abs (hm : X.mg "abs" = none) (ha : MA X (e :: es) fs) (hg : Gl X "abs" := by rfl) (he : starEach (e :: es) X.env = (false, eval e X.env) :: starEach es X.env := by rfl) (hpl : (backTo pos (starEach es X.env)).any (·.1) = false := by rfl) : ME X (.Call (.Name "abs" p) (e :: es) [] pos) (eCall bAbs fs) :=
  me_callB (call_abs) imp_abs hg hm (by decide +kernel) ha (by decide) (by decide) he hpl
theorem mb_int (hm : X.mg "int" = none) (ha : MA X (e :: es) fs) (hg : Gl X "int" := by rfl) (he : starEach (e :: es) X.env = (false, eval e X.env) :: starEach es X.env := by rfl) (hpl : (backTo pos (starEach es X.env)).any (·.1) = false := by rfl) : ME X (.Call (.Name "int" p) (e :: es) [] pos) (eCall bInt fs) :=
  me_callTy (call_int1) imp_int hg hm (by decide +kernel) ha (by decide) (by decide) he hpl
theorem mb_max (hc : X.calm = true) (hm : X.mg "max" = none) (ha : MA X (e :: es) fs) (hg : Gl X "max" := by rfl) (he : starEach (e :: es) X.env = (false, eval e X.env) :: starEach es X.env := by rfl) (hpl : (backTo pos (starEach es X.env)).any (·.1) = false := by rfl) : ME X (.Call (.Name "max" p) (e :: es) [] pos) (eCall bMax fs) :=
  me_callB (call_max2 hc) imp_max hg hm (by decide +kernel) ha (by decide) (by decide) he hpl
theorem mb_isi (hm : X.mg "isinstance" = none) (ha : MA X (e :: es) fs) (hg : Gl X "isinstance" := by rfl) (he : starEach (e :: es) X.env = (false, eval e X.env) :: starEach es X.env := by rfl) (hpl : (backTo pos (starEach es X.env)).any (·.1) = false := by rfl) : ME X (.Call (.Name "isinstance" p) (e :: es) [] pos) (eCall bIsi fs) :=
  me_callB (call_isiAll) imp_isi hg hm (by decide +kernel) ha (by decide) (by decide) he hpl
theorem me_lt (ha : ME X a fa) (hb : ME X b fb) : ME X (.Compare a [.Lt] [b] pos) (eOp cLt fa fb) := me_cmp (op_lt) imp_cmp ha hb (nomark _)
theorem mt_lt (ha : ME X a fa) (hb : ME X b fb) : MT X (.Compare a [.Lt] [b] pos) (asB (eOp cLt fa fb)) := mt_cmp (op_lt) imp_cmp ha hb (nomark _)
theorem mt_le (ha : ME X a fa) (hb : ME X b fb) : MT X (.Compare a [.LtE] [b] pos) (asB (eOp cLe fa fb)) := mt_cmp (op_le) imp_cmp ha hb (nomark _)
theorem me_gt (ha : ME X a fa) (hb : ME X b fb) : ME X (.Compare a [.Gt] [b] pos) (eOp cGt fa fb) := me_cmp (op_gt) imp_cmp ha hb (nomark _)
theorem mt_gt (ha : ME X a fa) (hb : ME X b fb) : MT X (.Compare a [.Gt] [b] pos) (asB (eOp cGt fa fb)) := mt_cmp (op_gt) imp_cmp ha hb (nomark _)
theorem mt_ge (ha : ME X a fa) (hb : ME X b fb) : MT X (.Compare a [.GtE] [b] pos) (asB (eOp cGe fa fb)) := mt_cmp (op_ge) imp_cmp ha hb (nomark _)
theorem me_eq (hu : X.A.units + 64 < cLine) (ha : ME X a fa) (hb : ME X b fb) : ME X (.Compare a [.Eq] [b] pos) (eOp cEq fa fb) := me_cmp (op_eqD hu) imp_eq ha hb (nomark _)
theorem mt_eq (hu : X.A.units + 64 < cLine) (ha : ME X a fa) (hb : ME X b fb) : MT X (.Compare a [.Eq] [b] pos) (asB (eOp cEq fa fb)) := mt_cmp (op_eqD hu) imp_eq ha hb (nomark _)
theorem mt_ne (hu : X.A.units + 64 < cLine) (ha : ME X a fa) (hb : ME X b fb) : MT X (.Compare a [.NotEq] [b] pos) (asB (eOp cNe fa fb)) := mt_cmp (op_neD hu) imp_ne ha hb (nomark _)
theorem mt_isNot (ha : ME X a fa) (hb : ME X b fb) : MT X (.Compare a [.IsNot] [b] pos) (asB (eOp cIsNot fa fb)) := mt_cmp (op_isNotA) imp_isNot ha hb (nomark _)
end
end ML

namespace ML
open PySem PySem.Spec PyProof.Rows L2
/-! ### constants of the module -/
mutual
def ckV (K : PySem.W.Frag) : D → Value → Bool
  | .non, .none => true
  | .bl b, .bool c => b == c
  | .int i, .int j _ => decide (i = j)
  | .str x, .str y _ => decide (x = y)
  | .tup ds, .ref a => match K.lookup a with
    | some ⟨.type c, _, .seq its _, _⟩ => decide (c = "tuple") && (decide (its.size ≤ sizeLine) && ckL K ds its.toList)
    | _ => false
  | _, _ => false
def ckL (K : PySem.W.Frag) : List D → List Value → Bool
  | [], [] => true
  | d :: ds, u :: us => ckV K d u && ckL K ds us
  | _, _ => false
end
mutual
theorem ckV_ok {K : PySem.W.Frag} : ∀ (d : D) (u : Value), ckV K d u = true → ∃ v, RelV v u ∧ ∀ mg ρ H, Rp ⟨K, mg⟩ ρ H d v
  | .non, .none, h => ⟨.non, rfl, fun _ _ _ => rp_of_non⟩
  | .bl b, .bool c, h => ⟨.bl b, by rw [beq_iff_eq.mp (show (b == c) = true from h)]; rfl, fun _ _ _ => rp_of_bl _⟩
  | .int i, .int j t, h => ⟨.int i, ⟨t, by rw [of_decide_eq_true (show decide (i = j) = true from h)]⟩, fun _ _ _ => rp_of_int _⟩
  | .str x, .str y t, h => ⟨.str x, ⟨t, by rw [of_decide_eq_true (show decide (x = y) = true from h)]⟩, fun _ _ _ => rp_of_str _⟩
  | .tup ds, .ref a, h => by
    rw [ckV] at h
    split at h
    · rename_i o c od its n sl q
      simp only [Bool.and_eq_true, decide_eq_true_eq] at h
      obtain ⟨rfl, h2, h3⟩ := h
      obtain ⟨vs, r, e⟩ := ckL_ok ds its.toList h3
      refine ⟨.ref a, rfl, fun mg ρ H => ?_⟩
      simp only [Rp]
      exact ⟨a, vs, rfl, .inr ⟨_, its, n, q, rfl, rfl, h2, r⟩, e mg ρ H⟩
    · cases h
theorem ckL_ok {K : PySem.W.Frag} : ∀ (ds : List D) (us : List Value), ckL K ds us = true → ∃ vs, Vals vs us ∧ ∀ mg ρ H, RpL ⟨K, mg⟩ ρ H ds vs
  | [], [], _ => ⟨[], .nil, fun _ _ _ => RpL.nil⟩
  | d :: ds, u :: us, h => by
    rw [ckL, Bool.and_eq_true] at h
    obtain ⟨v, r, e⟩ := ckV_ok d u h.1
    obtain ⟨vs, rs, es⟩ := ckL_ok ds us h.2
    exact ⟨v :: vs, .cons r rs, fun mg ρ H => RpL.cons (e mg ρ H) (es mg ρ H)⟩
  | [], _ :: _, h => by cases h
  | _ :: _, [], h => by cases h
end
def ckX (K : PySem.W.Frag) (p : Str × D) : Bool := match PySem.W.nsIn K mainGlobals p.1 with
  | some (some v) => ckV K p.2 v
  | _ => false
def obsX (fa : List He.Fa) (fn : List He.DefD) (cs : List (Str × D)) (K : PySem.W.Frag) : He.AlD := ((He.obsD fa fn K).1 && cs.all (ckX K), (He.obsD fa fn K).2)
def SaysX (fa : List He.Fa) (fn : List He.DefD) (cs : List (Str × D)) (K : PySem.W.Frag) : Prop := obsX fa fn cs K = He.valD fn
/-- the name x tells d -/
structure HasC (K : PySem.W.Frag) (mg : Str → Option Value) (x : Str) (d : D) : Prop where
  ex : ∃ u v, mg x = some u ∧ RelV v u ∧ ∀ ρ H, Rp ⟨K, mg⟩ ρ H d v
section
variable {fa : List He.Fa} {fn : List He.DefD} {cs : List (Str × D)} {K : PySem.W.Frag} {h : Heap} {mg : Str → Option Value}
theorem SaysX.d (c : SaysX fa fn cs K) : He.SaysD fa fn K := by
  have c1 : ((He.obsD fa fn K).1 && cs.all (ckX K)) = true := congrArg (fun z : He.AlD => z.1) c
  have c2 : (obsX fa fn cs K).2 = (He.valD fn).2 := by rw [show obsX fa fn cs K = He.valD fn from c]
  exact Prod.ext (Bool.and_eq_true_iff.mp c1).1 c2
theorem SaysX.cst (X : K.In h) (G : h.Ns mainGlobals mg) (c : SaysX fa fn cs K) (i : Nat) {x : Str} {d : D} (e : cs[i]? = some (x, d) := by rfl) : HasC K mg x d := by
  have c1 : ((He.obsD fa fn K).1 && cs.all (ckX K)) = true := congrArg (fun z : He.AlD => z.1) c
  have c2 := List.all_eq_true.mp (Bool.and_eq_true_iff.mp c1).2 _ (List.mem_of_getElem? e)
  unfold ckX at c2
  split at c2
  · rename_i v hv
    obtain ⟨u, r, z⟩ := ckV_ok d v c2
    exact ⟨v, u, PySem.W.mg_of X G hv, r, z mg⟩
  · cases c2
end
section
variable {X : Cx} {e a b : Expr} {es : List Expr} {fe fa fb : Den} {fs fu : ADen} {pos p : Pos}
theorem me_cst {x : Str} {d : D} (C : HasC X.K X.mg x d) (hg : Gl X x := by rfl) (hd : (x == ("__debug__" : Str)) = false := by decide) : ME X (.Name x pos) (eC d) := by
  obtain ⟨u, v, h1, h2, h3⟩ := C.ex
  exact me_glob hg h1 h2 h3 hd
/-- list(xs) -/
def uLi (f : Den) : ADen := fun env S => (f env S).bind fun p => match p.1 with
  | .tup xs => some (xs, p.2)
  | .loc m => (lsAt p.2 m).map fun xs => (xs, p.2)
  | _ => none
/-- str(i) -/
def bStr : Fn
  | [.int i], S => if i.natAbs.log2 < 1920 then some (.str (toString i), S) else none
  | [.str x], S => some (.str x, S)
  | _, _ => none
/-- {k: v} -/
def dKy : D → Option Key
  | .int i => some (.inl i)
  | .str x => some (.inr x)
  | _ => none
def eDk1 (f g : Den) : Den := fun env S => (f env S).bind fun p => (g env p.2).bind fun q => (dKy p.1).map fun k => (.loc q.2.length, q.2 ++ [.dk [(k, q.1)]])
end
end ML
namespace ML
open PySem PySem.Spec PyProof.Rows L2
end ML
namespace ML
open PySem PySem.Spec PyProof.Rows L2
/-! ### what is not reached: no answer, no promise -/
end ML

namespace ML
open PySem PySem.Spec PyProof.Rows L2
/-! ### tables of defs -/
/-- a told row of tables: the name, its keys with the defs' names -/
abbrev TabD : Type := Str × List (Str × Str)
abbrev AlY : Type := He.AlD × List (Option (List (Option (Str × Int))))
def ckT (K : PySem.W.Frag) (t : TabD) : Bool := He.eqO (PySem.W.nsIn K mainGlobals t.1) (some (some (.ref (He.ga K t.1)))) &&
  t.2.all fun q => He.eqO (PySem.W.nsIn K mainGlobals q.2) (some (some (.ref (He.ga K q.2)))) && He.eqO (PySem.W.nsIn K (He.ga K t.1) q.1) (some (some (.ref (He.ga K q.2))))
def obsY (fa : List He.Fa) (fn : List He.DefD) (cs : List (Str × D)) (ts : List TabD) (K : PySem.W.Frag) : AlY :=
  (((obsX fa fn cs K).1 && ts.all (ckT K), (obsX fa fn cs K).2), ts.map fun t => He.dicW K (He.ga K t.1))
def valY (fn : List He.DefD) (ts : List TabD) (w : World) : AlY := (He.valD fn, ts.map fun t => some (He.keysIn w.params (t.2.map (·.1))))
def SaysY (fa : List He.Fa) (fn : List He.DefD) (cs : List (Str × D)) (ts : List TabD) (w : World) (K : PySem.W.Frag) : Prop := obsY fa fn cs ts K = valY fn ts w
def obsYG (n : Nat) (fa : List He.Fa) (fn : List He.DefD) (cs : List (Str × D)) (ts : List TabD) (g : Addr → Option Obj) : AlY := obsY fa fn cs ts (He.frG g (He.asD g n))
def hookY (n : Nat) (fa : List He.Fa) (fn : List He.DefD) (cs : List (Str × D)) (ts : List TabD) : PySem.W.Hook where
  α := AlY
  obs := fun s => obsYG n fa fn cs ts s.heap.get?
  val := fun w => valY fn ts w
  says := fun w h => ∃ K : PySem.W.Frag, K.In h ∧ SaysY fa fn cs ts w K
  of := fun _ _ e => ⟨_, He.frG_in, e⟩
  keeps := fun _ _ _ ⟨K, hK, c⟩ k => ⟨K, PySem.W.Frag.In.keeps hK k, c⟩
theorem obsYG_eq {n : Nat} {fa : List He.Fa} {fn : List He.DefD} {cs : List (Str × D)} {ts : List TabD} {g : Addr → Option Obj} {s : Shared} (h : ∀ a, g a = s.heap.get? a) : obsYG n fa fn cs ts g = (hookY n fa fn cs ts).obs s := by
  have e : g = s.heap.get? := funext h
  rw [e] <;> rfl
section
variable {fa : List He.Fa} {fn : List He.DefD} {cs : List (Str × D)} {ts : List TabD} {K : PySem.W.Frag} {h : Heap} {mg : Str → Option Value} {w : World}
theorem SaysY.x (c : SaysY fa fn cs ts w K) : SaysX fa fn cs K := by
  have c0 : obsY fa fn cs ts K = valY fn ts w := c
  have c1 : ((obsX fa fn cs K).1 && ts.all (ckT K)) = true := congrArg (fun z : AlY => z.1.1) c0
  have c2 : (obsX fa fn cs K).2 = (He.valD fn).2 := congrArg (fun z : AlY => z.1.2) c0
  exact Prod.ext (Bool.and_eq_true_iff.mp c1).1 c2
theorem SaysY.d (c : SaysY fa fn cs ts w K) : He.SaysD fa fn K := c.x.d
theorem SaysY.cst (X : K.In h) (G : h.Ns mainGlobals mg) (c : SaysY fa fn cs ts w K) (i : Nat) {x : Str} {d : D} (e : cs[i]? = some (x, d) := by rfl) : HasC K mg x d := c.x.cst X G i e
end
section
variable {X : Cx} {e a b c : Expr} {es : List Expr} {fe fa fb fc fo : Den} {fs fu : ADen} {x : Str} {p pos apos : Pos} {k k' i j l : Nat} {g : Fn}
/-- some defs -/
def HasFns (P : Program) (w : World) (K : PySem.W.Frag) (mg : Str → Option Value) (base : Heap) (k : Nat) : List (Str × Fn) → Prop
  | [] => True
  | p :: r => HasFn P w K mg base p.1 k p.2 ∧ HasFns P w K mg base k r
theorem HasFns.get {P : Program} {w : World} {K : PySem.W.Frag} {mg : Str → Option Value} {base : Heap} {k : Nat} : ∀ {l : List (Str × Fn)} {x : Str} {F : Fn}, HasFns P w K mg base k l → l.lookup x = some F → HasFn P w K mg base x k F
  | (y, G) :: r, x, F, h, e => by
    rw [List.lookup_cons] at e
    split at e
    · rename_i hb
      cases e
      rw [beq_iff_eq.mp hb]
      exact h.1
    · exact HasFns.get h.2 e
theorem HasFns.nil {P : Program} {w : World} {K : PySem.W.Frag} {mg : Str → Option Value} {base : Heap} {k : Nat} : HasFns P w K mg base k [] := True.intro
theorem HasFns.cons {P : Program} {w : World} {K : PySem.W.Frag} {mg : Str → Option Value} {base : Heap} {k : Nat} {x : Str} {F : Fn} {r : List (Str × Fn)} (h : HasFn P w K mg base x k F) (t : HasFns P w K mg base k r) : HasFns P w K mg base k ((x, F) :: r) := ⟨h, t⟩
theorem HasFn.mono {P : Program} {w : World} {K : PySem.W.Frag} {mg : Str → Option Value} {base : Heap} {k k' : Nat} {x : Str} {F : Fn} (h : HasFn P w K mg base x k F) (hk : k ≤ k' := by decide) : HasFn P w K mg base x k' F := by
  obtain ⟨f, fd, ps, h1, h2, h3, h4⟩ := h.ex
  exact ⟨f, fd, ps, h1, h2, h3, h4.mono hk⟩
/-! ### list.reverse -/
theorem RpL.reverse {G : Gx} {ρ : List Lo} {H : Hp} : ∀ {ds : List D} {vs : List V}, RpL G ρ H ds vs → RpL G ρ H ds.reverse vs.reverse
  | [], _, h => by simp only [RpL] at h; subst h; exact RpL.nil
  | d :: ds, _, h => by
    simp only [RpL] at h
    obtain ⟨v, r, rfl, q, t⟩ := h
    rw [List.reverse_cons, List.reverse_cons]
    exact (RpL.reverse t).append (RpL.one q)
/-! ### enumerate, reversed -/
/-! ### 1 << n, n.bit_length() -/
/-! ### unpacking a tuple or a list -/
def gTupL (n : Nat) (g : GsDen) : GDen
  | .tup ds, env, S => if ds.length = n then g ds env S else none
  | .loc l, env, S => match lsAt S l with
    | some ds => if ds.length = n then g ds env S else none
    | none => none
  | _, _, _ => none
end
end ML

namespace MZ
open PySem PySem.Spec PyProof.Rows L2 RZ
open PySem.Sem (wp)
/-- the turns through a list (false) or a tuple (true) -/
def KI (t : Bool) (h : Heap) (i l : Addr) (k : Nat) : Prop := match t with
  | true => h.IsTupleIter i l k
  | false => h.IsListIter i l k
def KS (t : Bool) (h : Heap) (l : Addr) (xs : Array Value) : Prop := match t with
  | true => h.IsTuple l xs
  | false => h.IsList l xs
def KC (t : Bool) : String := match t with
  | true => "tuple_iterator"
  | false => "list_iterator"
theorem KI.at {t : Bool} {h h' : Heap} {i l : Addr} {k : Nat} (x : KI t h i l k) (e : ∀ o, h.get? i = some o → h'.get? i = some o) : KI t h' i l k := by
  cases t
  · exact Heap.IsListIter.at x e
  · exact Heap.IsTupleIter.at x e
theorem KS.at {t : Bool} {h h' : Heap} {l : Addr} {xs : Array Value} (x : KS t h l xs) (e : ∀ o, h.get? l = some o → h'.get? l = some o) : KS t h' l xs := by
  cases t
  · exact Heap.IsList.at x e
  · exact Heap.IsTuple.at x e
theorem KI.ob {t : Bool} {h : Heap} {i l : Addr} {k : Nat} (x : KI t h i l k) : ∃ o, h.get? i = some o ∧ ∀ v, o.data ≠ .cell v := by
  cases t <;> exact (let ⟨o, e, _, d⟩ := x; ⟨o, e, fun v q => by rw [d] at q; cases q⟩)
theorem KI.lt {t : Bool} {h : Heap} {i l : Addr} {k : Nat} (x : KI t h i l k) : i < h.objs.size := by
  obtain ⟨o, e, _⟩ := x.ob
  exact Heap.lt_size e
theorem KS.lt {t : Bool} {h : Heap} {l : Addr} {xs : Array Value} (x : KS t h l xs) : l < h.objs.size := by
  cases t <;> exact (let ⟨_, e, _⟩ := x; Heap.lt_size e)
theorem KI.new {t : Bool} {h : Heap} {i l : Addr} (e : h.get? i = some { cls := .type (KC t), data := .fields #[.ref l, .int 0 0] }) : KI t h i l 0 := by
  cases t
  · exact ⟨_, e, rfl, rfl⟩
  · exact ⟨_, e, rfl, rfl⟩
section
variable {prog : Program} {w : World} {A : Around} {E : Value → Shared → Prop} {s : Shared}
end
/-- a list or a tuple of values -/
def Sq (K : PySem.W.Frag) (t : Bool) (H : Hp) (a : Addr) (xs : List V) : Prop := match t with
  | true => SqT K H a xs
  | false => SqL K H a xs
theorem sq_inj {X : Cx} {pins : List (Addr × Obj)} {σ : L2.St} {H : Hp} {s : Shared} {t : Bool} {a : Addr} {xs ys : List V} (I : Inv X pins σ H s) (p : Sq X.K t H a xs) (q : Sq X.K t H a ys) : xs = ys := by
  cases t
  · exact I.list_inj p q
  · exact I.tuple_inj p q

section
variable {prog : Program} {w : World} {A : Around} {E : Value → Shared → Prop} {s : Shared}
end
section
variable {prog : Program} {w : World} {A : Around} {E : Value → Shared → Prop} {s : Shared}
end
section
variable {prog : Program} {w : World} {A : Around} {E : Value → Shared → Prop} {s : Shared}
end
section
variable {prog : Program} {w : World} {A : Around} {E : Value → Shared → Prop} {s : Shared}
end
end MZ

namespace MZ
open PySem PySem.Spec PyProof.Rows L2 RZ
open PySem.Sem (wp)
end MZ

namespace ML
open PySem PySem.Spec PyProof.Rows L2
end ML

namespace MZ
open PySem PySem.Spec PyProof.Rows L2 RZ
open PySem.Sem (wp)
section
variable {prog : Program} {w : World} {A : Around} {E : Value → Shared → Prop} {s : Shared}
end
section
variable {X : Cx} {pins : List (Addr × Obj)} {σ : L2.St} {H : Hp} {s : Shared} {B : Around} {E : Value → Shared → Prop} {z TI TO i1 i2 i3 a1 a2 a3 : Addr} {t1 t2 t3 : Bool} {xs1 xs2 xs3 : List V} {k : Nat}
end
section
variable {X : Cx} {pins : List (Addr × Obj)} {σ : L2.St} {z TI TO i1 i2 i3 a1 a2 a3 q : Addr} {t1 t2 t3 : Bool} {xs1 xs2 xs3 : List V}
end
end MZ

namespace ML
open PySem PySem.Spec PyProof.Rows L2
end ML

namespace ML
open PySem PySem.Spec PyProof.Rows L2
/-! ### reckoning with the functions on data -/
section
variable {env : En} {S S' : Sto} {f g : Den} {t u : TDen} {a : ADen} {d : D} {b c : SDen} {op : Op2} {o1 : Op1} {F : Fn} {gg : GDen}
@[simp] theorem x_var {i : Nat} : eVar i env S = match env[i]? with
  | some (some d) => some (d, S)
  | _ => none := rfl
@[simp] theorem x_c : eC d env S = some (d, S) := rfl
@[simp] theorem x_op : eOp op f g env S = (f env S).bind fun p => (g env p.2).bind fun q => op p.1 q.1 q.2 := rfl
@[simp] theorem x_un : eUn o1 f env S = (f env S).bind fun p => o1 p.1 p.2 := rfl
@[simp] theorem x_anil : aNil env S = some ([], S) := rfl
@[simp] theorem x_acons : aCons f a env S = (f env S).bind fun p => (a env p.2).bind fun q => some (p.1 :: q.1, q.2) := rfl
theorem line_pos {n : Nat} (h : n ≤ 1000) : n ≤ sizeLine := Nat.le_of_lt (small1000 h)
@[simp] theorem sl_eq : sizeLine = 16777216 := sizeLine_eq
@[simp] theorem x_tup : eTup a env S = (a env S).bind fun p => if p.1.length ≤ sizeLine then some (.tup p.1, p.2) else none := rfl
@[simp] theorem x_call : eCall F a env S = (a env S).bind fun p => F p.1 p.2 := rfl
@[simp] theorem x_if : eIf t f g env S = (t env S).bind fun p => if p.1 = true then f env p.2 else g env p.2 := rfl
@[simp] theorem x_and : eAnd f g env S = (f env S).bind fun p => (truD p.1 p.2).bind fun k => if k = true then g env p.2 else some p := rfl
@[simp] theorem x_or : eOr f g env S = (f env S).bind fun p => (truD p.1 p.2).bind fun k => if k = true then some p else g env p.2 := rfl
@[simp] theorem x_not : eNot f env S = (f env S).bind fun p => (truD p.1 p.2).bind fun k => some (.bl (!k), p.2) := rfl
@[simp] theorem x_tru : tTru f env S = (f env S).bind fun p => (truD p.1 p.2).map fun k => (k, p.2) := rfl
@[simp] theorem x_asB : asB f env S = (f env S).bind fun p => match p.1 with
  | .bl b => some (b, p.2)
  | _ => none := rfl
@[simp] theorem x_tand : ML.tAnd t u env S = (t env S).bind fun p => if p.1 = true then u env p.2 else some (false, p.2) := rfl
@[simp] theorem x_tor : ML.tOr t u env S = (t env S).bind fun p => if p.1 = true then some (true, p.2) else u env p.2 := rfl
@[simp] theorem x_tnot : ML.tNot t env S = (t env S).bind fun p => some (!p.1, p.2) := rfl
@[simp] theorem x_own {fu : ADen} : eOwn fu env S = (fu env S).bind fun p => some (.loc p.2.length, p.2 ++ [.lst p.1]) := rfl
@[simp] theorem x_u {fu : ADen} : eU F fu env S = (fu env S).bind fun p => F p.1 p.2 := rfl
@[simp] theorem x_ulst {fu : ADen} : uLst fu env S = (fu env S).bind fun p => if p.1.length ≤ sizeLine then some p else none := rfl
@[simp] theorem x_uix {fu : ADen} : eUIx fu f env S = (fu env S).bind fun p => (f env p.2).bind fun q => match q.1 with
  | .int i => (atI p.1 i).map fun d => (d, q.2)
  | _ => none := rfl
@[simp] theorem x_snil : sNil env S = some (.nx, env, S) := rfl
@[simp] theorem x_scons : sCons b c env S = (b env S).bind fun p => match p.1 with
  | .nx => c p.2.1 p.2.2
  | _ => some p := rfl
@[simp] theorem x_asg : sAsg f gg env S = (f env S).bind fun p => (gg p.1 env p.2).bind fun q => some (.nx, q.1, q.2) := rfl
@[simp] theorem x_par {i j : Nat} {fu : ADen} : sPar i j fu env S = (fu env S).bind fun p => match p.1 with
  | [a, b] => some (.nx, (env.set i (some a)).set j (some b), p.2)
  | _ => none := rfl
@[simp] theorem x_par3 {i j l : Nat} {fu : ADen} : sPar3 i j l fu env S = (fu env S).bind fun p => match p.1 with
  | [a, b, c] => some (.nx, ((env.set i (some a)).set j (some b)).set l (some c), p.2)
  | _ => none := rfl
@[simp] theorem x_ret : sRet f env S = (f env S).bind fun p => some (.rt p.1, env, p.2) := rfl
@[simp] theorem x_retN : sRetN env S = some (.rt .non, env, S) := rfl
@[simp] theorem x_expr : sExpr f env S = (f env S).bind fun p => some (.nx, env, p.2) := rfl
@[simp] theorem x_sif : sIf t b c env S = (t env S).bind fun p => if p.1 = true then b env p.2 else c env p.2 := rfl
@[simp] theorem x_bk : sBk env S = some (.bk, env, S) := rfl
@[simp] theorem x_ct : sCt env S = some (.ct, env, S) := rfl
@[simp] theorem x_asgU {fu : ADen} {i : Nat} : sAsgU fu i env S = (fu env S).bind fun p => some (.nx, env.set i (some (.loc p.2.length)), p.2 ++ [.lst p.1]) := rfl
@[simp] theorem x_gname {i : Nat} {env : En} : ML.gName i d env S = some (env.set i (some d), S) := rfl
@[simp] theorem x_gnil {env : En} : ML.gNil [] env S = some (env, S) := rfl
@[simp] theorem x_gcons {env : En} {gs : GsDen} {r : List D} : ML.gCons gg gs (d :: r) env S = (gg d env S).bind fun p => gs r p.1 p.2 := rfl
@[simp] theorem x_gtup {n : Nat} {env : En} {gs : GsDen} {r : List D} : ML.gTup n gs (.tup r) env S = if r.length = n then gs r env S else none := rfl
@[simp] theorem x_tyes : ML.tYes env S = some (true, S) := rfl
/-! operators -/
@[simp] theorem x_add {i j : Int} : gAdd (.int i) (.int j) S = some (.int (i + j), S) := rfl
@[simp] theorem x_addI {i j : Int} : gAddI (.int i) (.int j) S = some (.int (i + j), S) := rfl
@[simp] theorem x_sub {i j : Int} : gSub (.int i) (.int j) S = some (.int (i - j), S) := rfl
@[simp] theorem x_neg {i : Int} : gNeg (.int i) S = some (.int (-i), S) := rfl
theorem x_mul {i j : Int} (h : wideM i j) : gMul (.int i) (.int j) S = some (.int (i * j), S) := if_pos h
theorem x_fdiv {i j : Int} (h : wideD j) : gFdiv (.int i) (.int j) S = some (.int (i.fdiv j), S) := if_pos h
theorem x_mod {i j : Int} (h : j ≠ 0) : gMod (.int i) (.int j) S = some (.int (i.fmod j), S) := if_pos h
theorem x_pow {i j : Int} (h : 0 ≤ j ∧ j ≤ 1000000 ∧ i.natAbs < 2 ^ 64) : gPow (.int i) (.int j) S = some (.int (i ^ j.toNat), S) := if_pos h
@[simp] theorem x_cmp {p : Int → Int → Bool} {i j : Int} : gCmp p (.int i) (.int j) S = some (.bl (p i j), S) := rfl
@[simp] theorem x_trub {k : Bool} : truD (.bl k) S = some k := rfl
@[simp] theorem x_trui {i : Int} : truD (.int i) S = some (i != 0) := rfl
@[simp] theorem x_trun : truD .non S = some false := rfl
@[simp] theorem x_isN : cIs .non .non S = some (.bl true, S) := rfl
@[simp] theorem x_isNt {xs : List D} : cIs (.tup xs) .non S = some (.bl false, S) := rfl
@[simp] theorem x_isNi {i : Int} : cIs (.int i) .non S = some (.bl false, S) := rfl
@[simp] theorem x_isnN : cIsNot .non .non S = some (.bl false, S) := rfl
@[simp] theorem x_isnNt {xs : List D} : cIsNot (.tup xs) .non S = some (.bl true, S) := rfl
@[simp] theorem x_isnNi {i : Int} : cIsNot (.int i) .non S = some (.bl true, S) := rfl
@[simp] theorem x_abs {i : Int} : bAbs [.int i] S = some (.int (i.natAbs : Int), S) := by
  show some (D.int (if i < 0 then -i else i), S) = _
  rw [show (if i < 0 then -i else i) = (i.natAbs : Int) by split <;> omega]
@[simp] theorem x_intb {k : Bool} : bInt [.bl k] S = some (.int (if k = true then 1 else 0), S) := rfl
@[simp] theorem x_inti {i : Int} : bInt [.int i] S = some (.int i, S) := rfl
@[simp] theorem x_max {i j : Int} : bMax [.int i, .int j] S = some (.int (max i j), S) := by
  show some (D.int (if j > i then j else i), S) = _
  rw [show (if j > i then j else i) = max i j by split <;> omega]
@[simp] theorem x_min {i j : Int} : bMin [.int i, .int j] S = some (.int (min i j), S) := by
  show some (D.int (if j < i then j else i), S) = _
  rw [show (if j < i then j else i) = min i j by split <;> omega]
@[simp] theorem x_lent {xs : List D} : bLen [.tup xs] S = some (.int xs.length, S) := rfl
@[simp] theorem x_tupU {xs : List D} : gTupU xs S = some (.tup xs, S) := rfl
@[simp] theorem x_lenU {xs : List D} : gLenU xs S = some (.int xs.length, S) := rfl
@[simp] theorem x_ixt {xs : List D} {i : Int} : gIx (.tup xs) (.int i) S = (atI xs i).map fun d => (d, S) := rfl
theorem gc_self (d : D) (S : Sto) : gc S.length d S = (d, S) := by
  unfold gc
  split <;> simp
theorem atI_n {α : Type} (xs : List α) (i : Nat) : atI xs (i : Int) = xs[i]? := by
  unfold atI ixN
  rw [if_pos (by omega)]
  by_cases h : i < xs.length
  · rw [if_pos (by omega)]; simp
  · rw [if_neg (by omega)]; simp; omega
@[simp] theorem atI_0 {α : Type} {x : α} {xs : List α} : atI (x :: xs) 0 = some x := atI_n (x :: xs) 0
@[simp] theorem atI_1 {α : Type} {x y : α} {xs : List α} : atI (x :: y :: xs) 1 = some y := atI_n (x :: y :: xs) 1
@[simp] theorem atI_2 {α : Type} {x y z : α} {xs : List α} : atI (x :: y :: z :: xs) 2 = some z := atI_n (x :: y :: z :: xs) 2
@[simp] theorem atI_3 {α : Type} {x y z u : α} {xs : List α} : atI (x :: y :: z :: u :: xs) 3 = some u := atI_n (x :: y :: z :: u :: xs) 3
/-! == -/
@[simp] theorem sh_int {i : Int} : SeqAt.shaped (.int i) = true := rfl
@[simp] theorem sh_bl {i : Bool} : SeqAt.shaped (.bool i) = true := rfl
@[simp] theorem sh_non : SeqAt.shaped .none = true := rfl
@[simp] theorem x_eqi {i j : Int} : cEq (.int i) (.int j) S = some (.bl (decide (i = j)), S) := by
  show (eqP S (.int i) (.int j)).map _ = _
  simp only [eqP, toPS, toP, Option.bind_some, sh_int, Bool.and_self, if_true, Option.map_some, PyData.eqv]
  rw [Bool.beq_eq_decide_eq]
@[simp] theorem x_nei {i j : Int} : cNe (.int i) (.int j) S = some (.bl (!decide (i = j)), S) := by
  show (eqP S (.int i) (.int j)).map _ = _
  simp only [eqP, toPS, toP, Option.bind_some, sh_int, Bool.and_self, if_true, Option.map_some, PyData.eqv]
  rw [Bool.beq_eq_decide_eq]
end
theorem srcOk_nil {S : Sto} : srcOk [] S := fun _ h => nomatch h
/-- a call, from the slots at its begin -/
theorem mk_ret {np ns : Nat} {body : SDen} {ds : List D} {S S' : Sto} {d : D} {env' : En} (e0 : En) (h : body e0 S = some (.rt d, env', S')) (hl : ds.length = np := by rfl) (he : ds.map some ++ List.replicate (ns - np) none = e0 := by rfl) : mkFn np ns body ds S = some (gc S.length d S') := by
  unfold mkFn
  rw [if_pos hl, he, h]
  rfl
theorem mk_same {np ns : Nat} {body : SDen} {ds : List D} {S : Sto} {d : D} {env' : En} (e0 : En) (h : body e0 S = some (.rt d, env', S)) (hl : ds.length = np := by rfl) (he : ds.map some ++ List.replicate (ns - np) none = e0 := by rfl) : mkFn np ns body ds S = some (d, S) := by
  rw [mk_ret e0 h hl he, gc_self]
theorem gc_len {n : Nat} {d : D} {S : Sto} (h : S.length = n) : gc n d S = (d, S) := by
  subst h; exact gc_self d S
theorem mk_len {np ns : Nat} {body : SDen} {ds : List D} {S S' : Sto} {d : D} {env' : En} (hs : S'.length = S.length) (e0 : En) (h : body e0 S = some (.rt d, env', S')) (hl : ds.length = np := by rfl) (he : ds.map some ++ List.replicate (ns - np) none = e0 := by rfl) : mkFn np ns body ds S = some (d, S') := by
  rw [mk_ret e0 h hl he, gc_len hs]
/-! ### bounds -/
theorem log2_lt {n k : Nat} (h : n < 2 ^ k) (hk : 0 < k) : n.log2 < k := PySem.Flt.log2_lt_of hk h
theorem wideM_of {i j : Int} {a b : Nat} (ha : i.natAbs < 2 ^ a) (hb : j.natAbs < 2 ^ b) (h0 : 0 < a := by decide) (h1 : 0 < b := by decide) (h : a + b ≤ 1000000 := by decide) : wideM i j := wide_mul ha hb h0 h1 h
theorem mul_lt {i j : Int} {a b : Nat} (ha : i.natAbs < 2 ^ a) (hb : j.natAbs < 2 ^ b) : (i * j).natAbs < 2 ^ (a + b) := wide_lt ha hb
theorem add_lt {i j : Int} {a : Nat} (ha : i.natAbs < 2 ^ a) (hb : j.natAbs < 2 ^ a) : (i + j).natAbs < 2 ^ (a + 1) := by
  have := Int.natAbs_add_le i j
  rw [Nat.pow_succ]; omega
theorem sub_lt {i j : Int} {a : Nat} (ha : i.natAbs < 2 ^ a) (hb : j.natAbs < 2 ^ a) : (i - j).natAbs < 2 ^ (a + 1) := by
  have := Int.natAbs_sub_le i j
  rw [Nat.pow_succ]; omega
theorem lt_mono {n a b : Nat} (h : n < 2 ^ a) (hb : a ≤ b) : n < 2 ^ b := Nat.lt_of_lt_of_le h (Nat.pow_le_pow_right (by decide) hb)
/-! ### fractions -/
/-- a fraction as the program has it -/
def rq (q : Rat) : D := .tup [.int q.num, .int q.den]
theorem fmod_nat (x y : Nat) : Int.fmod (x : Int) (y : Int) = ((x % y : Nat) : Int) := by
  rw [Int.fmod_eq_emod_of_nonneg _ (by omega)]; rfl
/-- the greatest common part, by turns -/
theorem gcd_while {t : TDen} {b : SDen} (mk : Int → Int → En) (ht : ∀ (x y : Nat) (S : Sto), t (mk x y) S = some (decide (y ≠ 0), S)) (hb : ∀ (x y : Nat) (S : Sto), y ≠ 0 → b (mk x y) S = some (.nx, mk y ((x % y : Nat) : Int), S)) (S : Sto) :
    ∀ (y x : Nat), sWhile t b (mk x y) S = some (.nx, mk (Nat.gcd x y : Nat) 0, S) := by
  intro y
  induction y using Nat.strongRecOn with
  | _ y ih =>
    intro x
    rw [sWhile_eq, ht]
    simp only [Option.bind_some]
    by_cases hy : y = 0
    · subst hy
      simp
    · rw [decide_eq_true hy, if_pos rfl, hb x y S hy]
      simp only [Option.bind_some]
      rw [ih (x % y) (Nat.mod_lt _ (by omega)) y]
      rw [Nat.gcd_comm y, ← Nat.gcd_rec, Nat.gcd_comm]
theorem gcd_pos {a b : Int} (hb : b ≠ 0) : 0 < Int.gcd a b := by
  unfold Int.gcd
  exact Nat.gcd_pos_of_pos_right _ (by omega)
theorem frac_num {a b : Int} (hb : b ≠ 0) : a.fdiv (if b < 0 then -(Int.gcd a b : Int) else (Int.gcd a b : Int)) = (Rat.divInt a b).num ∧ b.fdiv (if b < 0 then -(Int.gcd a b : Int) else (Int.gcd a b : Int)) = ((Rat.divInt a b).den : Int) := by
  have hg : (Int.gcd a b : Int) ≠ 0 := by
    have := gcd_pos (a := a) hb
    omega
  have h1 : (Int.gcd a b : Int) ∣ a := Int.gcd_dvd_left ..
  have h2 : (Int.gcd a b : Int) ∣ b := Int.gcd_dvd_right ..
  have hn := Rat.num_divInt a b
  have hd := Rat.den_divInt a b
  rw [if_neg hb, Int.gcd_comm b a] at hd
  rw [Int.gcd_comm b a] at hn
  rw [hn, hd]
  generalize hG : Int.gcd a b = g at *
  obtain ⟨x, rfl⟩ := h1
  obtain ⟨y, rfl⟩ := h2
  have hg0 : 0 < (g : Int) := by omega
  have hyn : y ≠ 0 := by rintro rfl; simp at hb
  have e0 : ∀ z : Int, (g : Int) * z / (g : Int) = z := fun z => Int.mul_ediv_cancel_left z hg
  by_cases hneg : (g : Int) * y < 0
  · rw [if_pos hneg]
    have hy : y < 0 := by
      rcases Int.lt_or_le y 0 with h | h
      · exact h
      · have := Int.mul_nonneg (Int.le_of_lt hg0) h; omega
    have es : ((g : Int) * y).sign = -1 := Int.sign_eq_neg_one_of_neg hneg
    have ef : ∀ z : Int, ((g : Int) * z).fdiv (-(g : Int)) = -z := fun z => by
      rw [show (g : Int) * z = (-(g : Int)) * (-z) by rw [Int.neg_mul_neg]]
      rw [Int.mul_fdiv_cancel_left _ (by omega)]
    rw [ef, ef, es]
    constructor
    · rw [show (-1 : Int) * ((g : Int) * x) = (g : Int) * (-x) by rw [Int.neg_one_mul, Int.mul_neg], e0]
    · rw [Int.natAbs_mul]
      simp only [Int.natAbs_natCast]
      rw [Nat.mul_div_cancel_left _ (by omega)]
      omega
  · rw [if_neg hneg]
    have hy : 0 < y := by
      rcases Int.lt_or_le 0 y with h | h
      · exact h
      · have h3 : y < 0 := by omega
        have := Int.mul_neg_of_pos_of_neg hg0 h3; omega
    have es : ((g : Int) * y).sign = 1 := Int.sign_eq_one_of_pos (Int.mul_pos hg0 hy)
    have ef : ∀ z : Int, ((g : Int) * z).fdiv (g : Int) = z := fun z => Int.mul_fdiv_cancel_left _ hg
    rw [ef, ef, es]
    constructor
    · rw [Int.one_mul, e0]
    · rw [Int.natAbs_mul]
      simp only [Int.natAbs_natCast]
      rw [Nat.mul_div_cancel_left _ (by omega)]
      omega
theorem frac_wide {a b : Int} (hb : b ≠ 0) (h : b.natAbs < 2 ^ 9000) : wideD (if b < 0 then -(Int.gcd a b : Int) else (Int.gcd a b : Int)) := by
  have hg := gcd_pos (a := a) hb
  have h2 : Int.gcd a b ≤ b.natAbs := by
    have : (Int.gcd a b) ∣ b.natAbs := Int.gcd_dvd_natAbs_right a b
    exact Nat.le_of_dvd (by omega) this
  have h3 : (if b < 0 then -(Int.gcd a b : Int) else (Int.gcd a b : Int)).natAbs = Int.gcd a b := by split <;> simp
  refine ⟨by split <;> omega, ?_⟩
  rw [h3]
  exact log2_lt (Nat.lt_of_le_of_lt h2 h) (by decide)
theorem num_le {a b : Int} (hb : b ≠ 0) : (Rat.divInt a b).num.natAbs ≤ a.natAbs ∧ (Rat.divInt a b).den ≤ b.natAbs := by
  constructor
  · rw [Rat.num_divInt]
    have : ((b.sign * a) / (b.gcd a : Int)).natAbs ≤ (b.sign * a).natAbs := Int.natAbs_ediv_le_natAbs _ _
    rw [Int.natAbs_mul, Int.natAbs_sign_of_ne_zero hb, Nat.one_mul] at this
    exact this
  · rw [Rat.den_divInt, if_neg hb]
    exact Nat.div_le_self _ _
end ML

namespace ML
open PySem PySem.Spec PyProof.Rows L2
/-! ### fractions: the functions that all texts have -/
def IsGcd (F : Fn) : Prop := ∀ (a b : Int) (S : Sto), F [.int a, .int b] S = some (.int (Int.gcd a b : Int), S)
def IsFrac (F : Fn) : Prop := ∀ (a b : Int) (S : Sto), b ≠ 0 → b.natAbs < 2 ^ 9000 → F [.int a, .int b] S = some (rq (Rat.divInt a b), S)
noncomputable def Kgcd1 : Fn := mkFn 2 2 (sCons (sPar 0 1 (aCons (eCall bAbs (aCons (eVar 0) aNil)) (aCons (eCall bAbs (aCons (eVar 1) aNil)) aNil))) (sCons (sWhile (tTru (eVar 1)) (sCons (sPar 0 1 (aCons (eVar 1) (aCons (eOp gMod (eVar 0) (eVar 1)) aNil))) sNil)) (sCons (sRet (eVar 0)) sNil)))
noncomputable def Kgcd2 : Fn := mkFn 2 2 (sCons (sAsg (eCall bAbs (aCons (eVar 0) aNil)) (ML.gName 0)) (sCons (sAsg (eCall bAbs (aCons (eVar 1) aNil)) (ML.gName 1)) (sCons (sWhile (asB (eOp cGt (eVar 1) (eC (.int 0)))) (sCons (sPar 0 1 (aCons (eVar 1) (aCons (eOp gMod (eVar 0) (eVar 1)) aNil))) sNil)) (sCons (sRet (eVar 0)) sNil))))
def Kfrac (F : Fn) : Fn := mkFn 2 3 (sCons (sAsg (eCall F (aCons (eVar 0) (aCons (eVar 1) aNil))) (ML.gName 2)) (sCons (sIf (asB (eOp cLt (eVar 1) (eC (.int 0)))) (sCons (sAsg (eUn gNeg (eVar 2)) (ML.gName 2)) sNil) sNil) (sCons (sRet (eTup (aCons (eOp gFdiv (eVar 0) (eVar 2)) (aCons (eOp gFdiv (eVar 1) (eVar 2)) aNil)))) sNil)))
def en2 (x y : Int) : En := [some (.int x), some (.int y)]
theorem gcd_turn (x y : Nat) (S : Sto) (h : y ≠ 0) : (sCons (sPar 0 1 (aCons (eVar 1) (aCons (eOp gMod (eVar 0) (eVar 1)) aNil))) sNil) (en2 x y) S = some (.nx, en2 y ((x % y : Nat) : Int), S) := by
  have : ((y : Int)) ≠ 0 := by omega
  simp [en2, x_mod this, fmod_nat]
theorem gcd1 : IsGcd Kgcd1 := by
  intro a b S
  refine mk_same (env' := en2 (Int.gcd a b) 0) [some (.int a), some (.int b)] ?_
  have z := gcd_while (t := tTru (eVar 1)) en2 (fun x y S => by by_cases h : y = 0 <;> simp [en2, h]) (fun x y S h => gcd_turn x y S h) S b.natAbs a.natAbs
  simp only [en2] at z
  simp [z, en2, Int.gcd]
theorem gcd2 : IsGcd Kgcd2 := by
  intro a b S
  refine mk_same (env' := en2 (Int.gcd a b) 0) [some (.int a), some (.int b)] ?_
  have z := gcd_while (t := asB (eOp cGt (eVar 1) (eC (.int 0)))) en2 (fun x y S => by by_cases h : y = 0 <;> simp [en2, h]; omega) (fun x y S h => gcd_turn x y S h) S b.natAbs a.natAbs
  simp only [en2] at z
  simp [z, en2, Int.gcd]
theorem frac_ok {F : Fn} (hF : IsGcd F) : IsFrac (Kfrac F) := by
  intro a b S hb hs
  have hw := frac_wide (a := a) hb hs
  obtain ⟨n1, n2⟩ := frac_num (a := a) hb
  by_cases h : b < 0
  · rw [if_pos h] at hw n1 n2
    refine mk_same (env' := [some (.int a), some (.int b), some (.int (-(Int.gcd a b : Int)))]) [some (.int a), some (.int b), none] ?_
    simp [hF a b S, h, x_fdiv hw, n1, n2, rq]
  · rw [if_neg h] at hw n1 n2
    refine mk_same (env' := [some (.int a), some (.int b), some (.int ((Int.gcd a b : Int)))]) [some (.int a), some (.int b), none] ?_
    simp [hF a b S, h, x_fdiv hw, n1, n2, rq]
/-! ### the deck -/
structure Dk (m : Nat) (rest : List Ob) (S : Sto) : Prop where
  ex : ∃ (ns parts : List Int) (i j : Int), S = .rol (ns.map .int) :: .lst (parts.map .int) :: .lst [.loc 0, .loc 1, .int i, .int j] :: rest ∧ ns.length ≤ 63 ∧ 0 ≤ i ∧ 0 ≤ j ∧ j ≤ m
theorem Dk.mono {m n : Nat} {rest : List Ob} {S : Sto} (h : Dk m rest S) (hl : m ≤ n) : Dk n rest S := by
  obtain ⟨ns, parts, i, j, e, a, b, c, d⟩ := h.ex
  exact ⟨ns, parts, i, j, e, a, b, c, by omega⟩
theorem Dk.len {m : Nat} {rest : List Ob} {S : Sto} (h : Dk m rest S) : S.length = rest.length + 3 := by
  obtain ⟨ns, parts, i, j, e, _⟩ := h.ex
  rw [e]; simp
noncomputable def Kcell : Fn := mkFn 2 2 (sCons (sIf (asB (eOp cEq (eCall bLen (aCons (eVar 0) aNil)) (eC (.int 0)))) (sCons (sRet (eOp gAdd (eOp gMul (eC (.int 7)) (eVar 1)) (eC (.int 3)))) sNil) sNil) (sCons (sRet (eCall bAbs (aCons (eOp gIx (eVar 0) (eOp gMod (eVar 1) (eCall bLen (aCons (eVar 0) aNil)))) aNil))) sNil))
def Kmixed (F : Fn) : Fn := mkFn 3 4 (sCons (sAsg (eOp gMod (eOp gPow (eOp gAdd (eOp gMul (eOp gAdd (eOp gMod (eCall F (aCons (eVar 0) (aCons (eVar 1) aNil))) (eC (.int 1000003))) (eC (.int 5))) (eOp gAdd (eVar 1) (eC (.int 2)))) (eOp gMul (eC (.int 7919)) (eVar 1))) (eC (.int 5))) (eC (.int 2147483647))) (ML.gName 3)) (sCons (sRet (eOp gMod (eOp gFdiv (eVar 3) (eC (.int 13))) (eVar 2))) sNil))
noncomputable def Kdeck : Fn := mkFn 1 2 (sCons (sRet (eOwn (uLst (aCons (eVar 0) (aCons (eOwn (uLc (iSeq (eVar 0)) (ML.gName 1) (asB (eOp cGe (eCall bAbs (aCons (eVar 1) aNil)) (eOp gPow (eC (.int 10)) (eC (.int 18))))) (eCall bAbs (aCons (eVar 1) aNil)) [1])) (aCons (eC (.int 0)) (aCons (eC (.int 0)) aNil))))))) sNil)
noncomputable def Ktake (F : Fn) : Fn := mkFn 2 3 (sCons (sWhile (asB (eOp cLt (eOp gIx (eVar 0) (eC (.int 2))) (eCall bLen (aCons (eOp gIx (eVar 0) (eC (.int 1))) aNil)))) (sCons (sAsg (eOp gIx (eOp gIx (eVar 0) (eC (.int 1))) (eOp gIx (eVar 0) (eC (.int 2)))) (ML.gName 2)) (sCons (sIf (asB (eOp cGt (eVar 2) (eC (.int 0)))) (sCons (sAsg (eOp gFdiv (eVar 2) (eVar 1)) (gPut (eOp gIx (eVar 0) (eC (.int 1))) (eOp gIx (eVar 0) (eC (.int 2))))) (sCons (sRet (eOp gMod (eVar 2) (eVar 1))) sNil)) sNil) (sCons (sAsg (eOp gAdd (eOp gIx (eVar 0) (eC (.int 2))) (eC (.int 1))) (gPut (eVar 0) (eC (.int 2)))) sNil)))) (sCons (sAsg (eOp gAdd (eOp gIx (eVar 0) (eC (.int 3))) (eC (.int 1))) (gPut (eVar 0) (eC (.int 3)))) (sCons (sRet (eCall F (aCons (eOp gIx (eVar 0) (eC (.int 0))) (aCons (eOp gIx (eVar 0) (eC (.int 3))) (aCons (eVar 1) aNil))))) sNil)))
@[simp] theorem lsAt_rol {xs : List D} {S : Sto} {l : Nat} (h : S[l]? = some (.rol xs)) : lsAt S l = some xs := by unfold lsAt; rw [h]; rfl
@[simp] theorem lsAt_lst {xs : List D} {S : Sto} {l : Nat} (h : S[l]? = some (.lst xs)) : lsAt S l = some xs := by unfold lsAt; rw [h]; rfl
@[simp] theorem x_lenl {S : Sto} {l : Nat} : bLen [.loc l] S = (lsAt S l).map fun xs => (.int xs.length, S) := rfl
@[simp] theorem x_ixl {S : Sto} {l : Nat} {i : Int} : gIx (.loc l) (.int i) S = (lsAt S l).bind fun xs => (atI xs i).map fun d => (d, S) := rfl
@[simp] theorem x_put {S : Sto} {env : En} {fo fi : Den} {d : D} : gPut fo fi d env S = (fo env S).bind fun p => (fi env p.2).bind fun q => match p.1, q.1 with
  | .loc l, .int i => match q.2[l]? with
    | some (.lst xs) => (ixN xs.length i).map fun j => (env, q.2.set l (.lst (xs.set j d)))
    | _ => none
  | _, _ => none := rfl
theorem atI_int (ns : List Int) (i : Nat) (h : i < ns.length) : atI (ns.map D.int) (i : Int) = some (.int ns[i]) := by
  rw [atI_n, List.getElem?_map, List.getElem?_eq_getElem h]; rfl
theorem cell_ok {ns : List Int} {rest : List Ob} (k : Nat) (hk : k < 2 ^ 40) : ∃ v : Nat, Kcell [.loc 0, .int (k : Int)] (.rol (ns.map .int) :: rest) = some (.int (v : Int), .rol (ns.map .int) :: rest) := by
  have e0 : lsAt (.rol (ns.map .int) :: rest) 0 = some (ns.map .int) := lsAt_rol rfl
  by_cases h : ns = []
  · subst h
    have hw : wideM 7 (k : Int) := wideM_of (a := 10) (b := 40) (by decide) (by omega)
    refine ⟨7 * k + 3, mk_same (env' := [some (.loc 0), some (.int (k : Int))]) [some (.loc 0), some (.int (k : Int))] ?_⟩
    simp at e0
    simp [e0, x_mul hw]
  · have hl : 0 < ns.length := by cases ns with
      | nil => exact absurd rfl h
      | cons _ _ => simp
    have hm : (k % ns.length) < ns.length := Nat.mod_lt _ hl
    refine ⟨(ns[k % ns.length]).natAbs, mk_same (env' := [some (.loc 0), some (.int (k : Int))]) [some (.loc 0), some (.int (k : Int))] ?_⟩
    have h1 : ((ns.length : Nat) : Int) ≠ 0 := by omega
    have e2 : atI (ns.map D.int) ((k : Int) % (ns.length : Int)) = some (.int ns[k % ns.length]) := by exact_mod_cast atI_int ns (k % ns.length) hm
    simp [e0, h, x_mod h1, fmod_nat, e2]
def IsMixed (F : Fn) : Prop := ∀ (ns : List Int) (rest : List Ob) (k : Nat) (m : Nat), k < 2 ^ 40 → 0 < m → ∃ v : Nat, v < m ∧ F [.loc 0, .int (k : Int), .int (m : Int)] (.rol (ns.map .int) :: rest) = some (.int (v : Int), .rol (ns.map .int) :: rest)
theorem mixed_ok : IsMixed (Kmixed Kcell) := by
  intro ns rest k m hk hm
  obtain ⟨v, hv⟩ := cell_ok (ns := ns) (rest := rest) k hk
  have h1 : (1000003 : Int) ≠ 0 := by decide
  have hb : v % 1000003 < 1000003 := Nat.mod_lt _ (by decide)
  generalize hx : v % 1000003 = x at hb
  have w1 : wideM ((x : Int) + 5) ((k : Int) + 2) := wideM_of (a := 30) (b := 41) (by omega) (by omega)
  have w2 : wideM 7919 (k : Int) := wideM_of (a := 30) (b := 41) (by decide) (by omega)
  have hp : ((x : Int) + 5) * ((k : Int) + 2) + 7919 * (k : Int) = (((x + 5) * (k + 2) + 7919 * k : Nat) : Int) := by push_cast; rfl
  have hsz : (x + 5) * (k + 2) + 7919 * k < 2 ^ 64 := by
    have : (x + 5) * (k + 2) ≤ 1000008 * (2 ^ 40 + 2) := Nat.mul_le_mul (by omega) (by omega)
    omega
  generalize hy : (x + 5) * (k + 2) + 7919 * k = y at hp hsz
  have h2 : (2147483647 : Int) ≠ 0 := by decide
  have h3 : ((m : Nat) : Int) ≠ 0 := by omega
  have w3 : wideD 13 := by decide
  have hpow : ((y : Int)) ^ (5 : Int).toNat = ((y ^ 5 : Nat) : Int) := by push_cast; rfl
  have p1 : (0 : Int) ≤ 5 ∧ (5 : Int) ≤ 1000000 ∧ ((y : Int)).natAbs < 2 ^ 64 := ⟨by decide, by decide, by simpa using hsz⟩
  have hf : Int.fmod ((y ^ 5 : Nat) : Int) 2147483647 = ((y ^ 5 % 2147483647 : Nat) : Int) := fmod_nat (y ^ 5) 2147483647
  generalize hz : y ^ 5 = z at hpow hf
  have hg : Int.fdiv ((z % 2147483647 : Nat) : Int) 13 = ((z % 2147483647 / 13 : Nat) : Int) := by
    rw [Int.fdiv_eq_ediv_of_nonneg _ (by decide)]; rfl
  have hfx : Int.fmod (v : Int) 1000003 = (x : Int) := by rw [← hx]; exact fmod_nat v 1000003
  refine ⟨z % 2147483647 / 13 % m, Nat.mod_lt _ hm, mk_same (env' := [some (.loc 0), some (.int (k : Int)), some (.int (m : Int)), some (.int ((z % 2147483647 : Nat) : Int))]) [some (.loc 0), some (.int (k : Int)), some (.int (m : Int)), none] ?_⟩
  have st1 : (eOp gMod (eOp gPow (eOp gAdd (eOp gMul (eOp gAdd (eOp gMod (eCall Kcell (aCons (eVar 0) (aCons (eVar 1) aNil))) (eC (.int 1000003))) (eC (.int 5))) (eOp gAdd (eVar 1) (eC (.int 2)))) (eOp gMul (eC (.int 7919)) (eVar 1))) (eC (.int 5))) (eC (.int 2147483647))) [some (.loc 0), some (.int (k : Int)), some (.int (m : Int)), none] (.rol (ns.map .int) :: rest) = some (.int ((z % 2147483647 : Nat) : Int), .rol (ns.map .int) :: rest) := by
    simp only [x_op, x_call, x_acons, x_anil, x_var, x_c, Option.bind_some, List.getElem?_cons_zero, List.getElem?_cons_succ, hv, x_mod h1, hfx, x_add, x_mul w1, x_mul w2, hp, x_pow p1, hpow, x_mod h2, hf]
  simp only [x_scons, x_asg, st1, Option.bind_some, x_gname, x_ret, List.set_cons_zero, List.set_cons_succ, x_op, x_var, x_c, List.getElem?_cons_zero, List.getElem?_cons_succ, x_fdiv w3, hg, x_mod h3, fmod_nat]

/-- the store with a deck -/
def dkS (ns parts : List Int) (i j : Int) (rest : List Ob) : Sto := .rol (ns.map .int) :: .lst (parts.map .int) :: .lst [.loc 0, .loc 1, .int i, .int j] :: rest
theorem dkS_mk {ns parts : List Int} {i j : Int} {rest : List Ob} {m : Nat} (h1 : ns.length ≤ 63) (h2 : 0 ≤ i) (h3 : 0 ≤ j) (h4 : j ≤ m) : Dk m rest (dkS ns parts i j rest) := ⟨ns, parts, i, j, rfl, h1, h2, h3, h4⟩
@[simp] theorem dk_0 {ns parts : List Int} {i j : Int} {rest : List Ob} : lsAt (dkS ns parts i j rest) 0 = some (ns.map .int) := rfl
@[simp] theorem dk_1 {ns parts : List Int} {i j : Int} {rest : List Ob} : lsAt (dkS ns parts i j rest) 1 = some (parts.map .int) := rfl
@[simp] theorem dk_2 {ns parts : List Int} {i j : Int} {rest : List Ob} : lsAt (dkS ns parts i j rest) 2 = some [.loc 0, .loc 1, .int i, .int j] := rfl
@[simp] theorem dk_g1 {ns parts : List Int} {i j : Int} {rest : List Ob} : (dkS ns parts i j rest)[1]? = some (.lst (parts.map .int)) := rfl
@[simp] theorem dk_g2 {ns parts : List Int} {i j : Int} {rest : List Ob} : (dkS ns parts i j rest)[2]? = some (.lst [.loc 0, .loc 1, .int i, .int j]) := rfl
@[simp] theorem dk_s1 {ns parts ps : List Int} {i j : Int} {rest : List Ob} : List.set (dkS ns parts i j rest) 1 (.lst (ps.map .int)) = dkS ns ps i j rest := rfl
@[simp] theorem dk_s2 {ns parts : List Int} {i j i' j' : Int} {rest : List Ob} : List.set (dkS ns parts i j rest) 2 (.lst [.loc 0, .loc 1, .int i', .int j']) = dkS ns parts i' j' rest := rfl
theorem ixN_n {n i : Nat} (h : i < n) : ixN n (i : Int) = some i := by
  unfold ixN
  rw [if_pos (by omega), if_pos (by omega)]
  simp
theorem set_ints (ps : List Int) (i : Nat) (v : Int) : (ps.map D.int).set i (.int v) = (ps.set i v).map D.int := by
  rw [List.map_set]
section
variable {k : Int}
abbrev tkT : TDen := asB (eOp cLt (eOp gIx (eVar 0) (eC (.int 2))) (eCall bLen (aCons (eOp gIx (eVar 0) (eC (.int 1))) aNil)))
abbrev tkB : SDen := sCons (sAsg (eOp gIx (eOp gIx (eVar 0) (eC (.int 1))) (eOp gIx (eVar 0) (eC (.int 2)))) (ML.gName 2)) (sCons (sIf (asB (eOp cGt (eVar 2) (eC (.int 0)))) (sCons (sAsg (eOp gFdiv (eVar 2) (eVar 1)) (gPut (eOp gIx (eVar 0) (eC (.int 1))) (eOp gIx (eVar 0) (eC (.int 2))))) (sCons (sRet (eOp gMod (eVar 2) (eVar 1))) sNil)) sNil) (sCons (sAsg (eOp gAdd (eOp gIx (eVar 0) (eC (.int 2))) (eC (.int 1))) (gPut (eVar 0) (eC (.int 2)))) sNil))
theorem ix2 {a b : D} {i j : Int} : ixN [a, b, D.int i, D.int j].length 2 = some 2 := ixN_n (i := 2) (show 2 < 4 by decide)
theorem ix3 {a b : D} {i j : Int} : ixN [a, b, D.int i, D.int j].length 3 = some 3 := ixN_n (i := 3) (show 3 < 4 by decide)
theorem take_loop (hk : 0 < k) (hw : wideD k) (ns : List Int) (j : Int) (rest : List Ob) : ∀ (n : Nat) (parts : List Int) (i : Nat) (x : Option D), parts.length - i ≤ n →
    (∃ (v : Int) (parts' : List Int) (i' : Nat) (env' : En), 0 ≤ v ∧ v < k ∧ sWhile tkT tkB [some (.loc 2), some (.int k), x] (dkS ns parts i j rest) = some (.rt (.int v), env', dkS ns parts' i' j rest)) ∨
    (∃ (i' : Nat) (x' : Option D), sWhile tkT tkB [some (.loc 2), some (.int k), x] (dkS ns parts i j rest) = some (.nx, [some (.loc 2), some (.int k), x'], dkS ns parts i' j rest)) := by
  intro n
  induction n with
  | zero =>
    intro parts i x h
    refine .inr ⟨i, x, ?_⟩
    rw [sWhile_eq]
    have : ¬ ((i : Int) < (parts.length : Int)) := by omega
    simp [this]
    try omega
  | succ n ih =>
    intro parts i x h
    by_cases hi : i < parts.length
    · have hk0 : k ≠ 0 := by omega
      have a1 := atI_int parts i hi
      have t1 : tkT [some (.loc 2), some (.int k), x] (dkS ns parts i j rest) = some (true, dkS ns parts i j rest) := by simp [hi]
      by_cases hp : 0 < parts[i]
      · refine .inl ⟨parts[i].fmod k, parts.set i (parts[i].fdiv k), i, [some (.loc 2), some (.int k), some (.int parts[i])], Int.fmod_nonneg_of_pos _ hk, Int.fmod_lt_of_pos _ hk, ?_⟩
        rw [sWhile_eq, t1]
        simp [a1, hp, x_fdiv hw, x_mod hk0, ixN_n hi, set_ints, -List.map_set]
      · have a2 : tkB [some (.loc 2), some (.int k), x] (dkS ns parts i j rest) = some (.nx, [some (.loc 2), some (.int k), some (.int parts[i])], dkS ns parts ((i + 1 : Nat) : Int) j rest) := by
          have z := ix2 (a := .loc 0) (b := .loc 1) (i := (i : Int)) (j := j)
          simp at z
          simp [a1, hp, z]
        rw [sWhile_eq, t1]
        simp only [Option.bind_some, if_true]
        rw [a2]
        simp only [Option.bind_some]
        exact ih parts (i + 1) (some (.int parts[i])) (by omega)
    · refine .inr ⟨i, x, ?_⟩
      rw [sWhile_eq]
      have : ¬ ((i : Int) < (parts.length : Int)) := by omega
      simp [this]
      try omega
end
def IsTake (F : Fn) : Prop := ∀ (m : Nat) (rest : List Ob) (S : Sto) (k : Int), Dk m rest S → m < 2 ^ 39 → 0 < k → wideD k → ∃ (v : Int) (S' : Sto), 0 ≤ v ∧ v < k ∧ F [.loc 2, .int k] S = some (.int v, S') ∧ Dk (m + 1) rest S'
theorem take_ok {F : Fn} (hF : IsMixed F) : IsTake (Ktake F) := by
  intro m rest S k hS hm hk hw
  obtain ⟨ns, parts, i, j, rfl, h1, h2, h3, h4⟩ := hS.ex
  obtain ⟨i0, rfl⟩ := Int.eq_ofNat_of_zero_le h2
  obtain ⟨j0, rfl⟩ := Int.eq_ofNat_of_zero_le h3
  obtain ⟨k0, rfl⟩ := Int.eq_ofNat_of_zero_le (show 0 ≤ k by omega)
  have e : (Ob.rol (ns.map .int) :: .lst (parts.map .int) :: .lst [.loc 0, .loc 1, .int i0, .int j0] :: rest) = dkS ns parts i0 j0 rest := rfl
  rw [e]
  rcases take_loop hk hw ns j0 rest parts.length parts i0 none (by omega) with ⟨v, parts', i', env', a1, a2, a3⟩ | ⟨i', x', a3⟩
  · refine ⟨v, dkS ns parts' i' j0 rest, a1, a2, mk_len (env' := env') rfl [some (.loc 2), some (.int k0), none] ?_, dkS_mk h1 (by omega) h3 (by omega)⟩
    simp only [x_scons]
    rw [a3]
    rfl
  · obtain ⟨v, b1, b2⟩ := hF ns (.lst (parts.map .int) :: .lst [.loc 0, .loc 1, .int i', .int ((j0 + 1 : Nat) : Int)] :: rest) (j0 + 1) k0 (by omega) (by omega)
    have e2 : (Ob.rol (ns.map .int) :: .lst (parts.map .int) :: .lst [.loc 0, .loc 1, .int i', .int ((j0 + 1 : Nat) : Int)] :: rest) = dkS ns parts i' ((j0 + 1 : Nat) : Int) rest := rfl
    rw [e2] at b2
    refine ⟨v, dkS ns parts i' ((j0 + 1 : Nat) : Int) rest, by omega, by omega, mk_len (env' := [some (.loc 2), some (.int (k0 : Int)), x']) rfl [some (.loc 2), some (.int k0), none] ?_, dkS_mk h1 (by omega) (by omega) (by omega)⟩
    have z := ix3 (a := .loc 0) (b := .loc 1) (i := (i' : Int)) (j := (j0 : Int))
    simp at z
    rw [x_scons, a3]
    simp at b2
    simp [z, b2]

/-- a comprehension that leaves the store -/
theorem lcRun_pure {src : List (Nat × Ob)} {g : GDen} {t : TDen} {f : Den} {env : En} {S : Sto} (p : D → Bool) (h : D → D) (e1 : D → En) (so : srcOk src S) : ∀ (ds acc : List D), acc.length + ds.length ≤ 1000 →
    (∀ d ∈ ds, g d env S = some (e1 d, S) ∧ t (e1 d) S = some (p d, S) ∧ (p d = true → f (e1 d) S = some (h d, S))) →
    lcRun src g t f env ds acc S = some (acc ++ (ds.filter p).map h, S)
  | [], acc, _, _ => by rw [lcRun, if_pos so]; simp
  | d :: ds, acc, hl, hd => by
    obtain ⟨a1, a2, a3⟩ := hd d (by simp)
    have hl' : acc.length + ds.length + 1 ≤ 1000 := by simpa [Nat.add_assoc] using hl
    rw [lcRun, if_pos so, a1]
    simp only [Option.bind_some]
    rw [a2]
    simp only [Option.bind_some]
    by_cases hp : p d = true
    · rw [hp, if_pos rfl, a3 hp]
      simp only [Option.bind_some]
      rw [if_pos (by rw [sizeLine_eq]; omega), lcRun_pure p h e1 so ds (acc ++ [h d]) (by simp; omega) (fun d' h' => hd d' (by simp [h']))]
      simp [hp]
    · rw [if_neg hp, lcRun_pure p h e1 so ds acc (by omega) (fun d' h' => hd d' (by simp [h']))]
      simp [hp]
@[simp] theorem x_lc {it : IDen} {g : GDen} {t : TDen} {f : Den} {vs : List Nat} {env : En} {S : Sto} : uLc it g t f vs env S = (it env S).bind fun p => lcRun p.1.src g t f (wipeE env vs) p.1.ds [] p.2 := rfl
@[simp] theorem x_iseqL {f : Den} {env : En} {S : Sto} : iSeq f env S = (f env S).bind fun p => match p.1 with
  | .tup ds => some (⟨ds, []⟩, p.2)
  | .loc l => match p.2[l]? with
    | some (.lst ds) => some (⟨ds, [(l, .lst ds)]⟩, p.2)
    | some (.rol ds) => some (⟨ds, [(l, .rol ds)]⟩, p.2)
    | _ => none
  | _ => none := rfl
def oi : D → Int
  | .int i => i
  | _ => 0
theorem deck_ok (ns : List Int) (h : ns.length ≤ 63) : ∃ parts, Kdeck [.loc 0] [.rol (ns.map D.int)] = some (.loc 2, dkS ns parts 0 0 []) := by
  refine ⟨(ns.filter fun i => decide (10 ^ 18 ≤ (i.natAbs : Int))).map fun i => (i.natAbs : Int), ?_⟩
  have so : srcOk [(0, Ob.rol (ns.map D.int))] [.rol (ns.map D.int)] := by intro p hp; simp at hp; subst hp; rfl
  have lc := lcRun_pure (g := ML.gName 1) (t := asB (eOp cGe (eCall bAbs (aCons (eVar 1) aNil)) (eOp gPow (eC (.int 10)) (eC (.int 18))))) (f := eCall bAbs (aCons (eVar 1) aNil)) (env := [some (.loc 0), none])
    (fun d => decide (10 ^ 18 ≤ ((oi d).natAbs : Int))) (fun d => .int ((oi d).natAbs : Int)) (fun d => [some (.loc 0), some d]) so (ns.map D.int) [] (by simp; omega) (fun d hd => by
      obtain ⟨i, _, rfl⟩ := List.mem_map.mp hd
      have p1 : (0 : Int) ≤ 18 ∧ (18 : Int) ≤ 1000000 ∧ (10 : Int).natAbs < 2 ^ 64 := by decide
      refine ⟨rfl, ?_, fun _ => by simp [oi]⟩
      simp [x_pow p1, oi]
      exact decide_eq_decide.mpr Iff.rfl)
  have e : wipeE [some (.loc 0), none] [1] = [some (.loc 0), none] := rfl
  have fl : List.map (fun d => D.int ((oi d).natAbs : Int)) (List.filter (fun d => decide (10 ^ 18 ≤ ((oi d).natAbs : Int))) (ns.map D.int)) = ((ns.filter fun i => decide (10 ^ 18 ≤ (i.natAbs : Int))).map fun i => (i.natAbs : Int)).map D.int := by
    rw [List.filter_map, List.map_map, List.map_map]
    rfl
  refine (mk_ret (S' := dkS ns ((ns.filter fun i => decide (10 ^ 18 ≤ (i.natAbs : Int))).map fun i => (i.natAbs : Int)) 0 0 []) (d := .loc 2) (env' := [some (.loc 0), none]) [some (.loc 0), none] ?_).trans ?_
  · simp only [x_scons, x_ret, x_own, x_ulst, x_acons, x_anil, x_var, x_c, x_lc, x_iseqL, Option.bind_some, List.getElem?_cons_zero]
    rw [e, lc]
    simp only [List.nil_append, fl]
    simp [dkS]
  · simp [gc, D.bel]
end ML

namespace ML
open PySem PySem.Spec PyProof.Rows L2
/-! ### kinds -/
@[simp] theorem kit_tt : kitB "tuple" "tuple" = some true := by decide +kernel
@[simp] theorem kit_it : kitB "int" "tuple" = some false := by decide +kernel
@[simp] theorem kit_bt : kitB "bool" "tuple" = some false := by decide +kernel
@[simp] theorem kit_st : kitB "str" "tuple" = some false := by decide +kernel
@[simp] theorem kit_lt : kitB "list" "tuple" = some false := by decide +kernel
@[simp] theorem kit_dt : kitB "dict" "tuple" = some false := by decide +kernel
@[simp] theorem kit_nt : kitB "NoneType" "tuple" = some false := by decide +kernel
@[simp] theorem kit_ii : kitB "int" "int" = some true := by decide +kernel
@[simp] theorem kit_bi : kitB "bool" "int" = some true := by decide +kernel
@[simp] theorem kit_ti : kitB "tuple" "int" = some false := by decide +kernel
@[simp] theorem kit_si : kitB "str" "int" = some false := by decide +kernel
@[simp] theorem kit_li : kitB "list" "int" = some false := by decide +kernel
@[simp] theorem kit_ni : kitB "NoneType" "int" = some false := by decide +kernel
@[simp] theorem kit_ib : kitB "int" "bool" = some false := by decide +kernel
@[simp] theorem kit_bb : kitB "bool" "bool" = some true := by decide +kernel
@[simp] theorem kit_tb : kitB "tuple" "bool" = some false := by decide +kernel
@[simp] theorem kit_sb : kitB "str" "bool" = some false := by decide +kernel
@[simp] theorem kit_nb : kitB "NoneType" "bool" = some false := by decide +kernel
@[simp] theorem kit_ss : kitB "str" "str" = some true := by decide +kernel
@[simp] theorem kit_is : kitB "int" "str" = some false := by decide +kernel
@[simp] theorem kit_bs : kitB "bool" "str" = some false := by decide +kernel
@[simp] theorem kit_ts : kitB "tuple" "str" = some false := by decide +kernel
@[simp] theorem kit_ns : kitB "NoneType" "str" = some false := by decide +kernel
@[simp] theorem kit_tl : kitB "tuple" "list" = some false := by decide +kernel
@[simp] theorem kit_ll : kitB "list" "list" = some true := by decide +kernel
@[simp] theorem kit_il : kitB "int" "list" = some false := by decide +kernel
@[simp] theorem kit_nl : kitB "NoneType" "list" = some false := by decide +kernel
@[simp] theorem kit_sl : kitB "str" "list" = some false := by decide +kernel
@[simp] theorem kit_bl : kitB "bool" "list" = some false := by decide +kernel
section
variable {S : Sto} {c : String}
@[simp] theorem ty_i {i : Int} : tyN S (.int i) = some "int" := rfl
@[simp] theorem ty_b {i : Bool} : tyN S (.bl i) = some "bool" := rfl
@[simp] theorem ty_s {i : Str} : tyN S (.str i) = some "str" := rfl
@[simp] theorem ty_t {i : List D} : tyN S (.tup i) = some "tuple" := rfl
@[simp] theorem ty_n : tyN S .non = some "NoneType" := rfl
@[simp] theorem x_isi {d : D} : bIsi [d, .ty c] S = (tyN S d).bind fun t => (kitB t c).map fun b => (.bl b, S) := by
  cases d <;> rfl
/-! fractions alike -/
theorem sh_rq {q : Rat} : SeqAt.shaped (.tuple [.int q.num, .int q.den]) = true := rfl
theorem eq_rq {q r : Rat} : eqP S (rq q) (rq r) = some (decide (q = r)) := by
  simp only [eqP, rq, toPS, toP, toPL, Option.bind_some, Option.map_some, sh_rq, Bool.and_self, if_true, PyData.eqv, PyData.eqvAll, Bool.and_true]
  congr 1
  rw [Bool.eq_iff_iff]
  simp only [Bool.and_eq_true, beq_iff_eq, decide_eq_true_eq]
  constructor
  · rintro ⟨a, b⟩
    exact Rat.ext a (by omega)
  · rintro rfl; exact ⟨rfl, rfl⟩
@[simp] theorem x_eqq {q r : Rat} : cEq (rq q) (rq r) S = some (.bl (decide (q = r)), S) := by
  show (eqP S (rq q) (rq r)).map _ = _
  rw [eq_rq]; rfl
@[simp] theorem x_neq {q r : Rat} : cNe (rq q) (rq r) S = some (.bl (!decide (q = r)), S) := by
  show (eqP S (rq q) (rq r)).map _ = _
  rw [eq_rq]; rfl
@[simp] theorem x_eqU {neg : Bool} {f g : ADen} {env : En} : eEqU neg f g env S = (f env S).bind fun p => (g env p.2).bind fun q => (toPL p.1).bind fun x => (toPL q.1).bind fun y =>
  if SeqAt.shaped (.list x) && SeqAt.shaped (.list y) then some (.bl (if neg = true then !PyData.eqv (.list x) (.list y) else PyData.eqv (.list x) (.list y)), q.2) else none := rfl
end
end ML

namespace ML
open PySem PySem.Spec PyProof.Rows L2
/-! ### sums and products of fractions -/
theorem ix_q0 {q : Rat} {S : Sto} : gIx (rq q) (.int 0) S = some (.int q.num, S) := rfl
theorem ix_q1 {q : Rat} {S : Sto} : gIx (rq q) (.int 1) S = some (.int q.den, S) := rfl
theorem den_ne (q : Rat) : ((q.den : Nat) : Int) ≠ 0 := by have := q.den_pos; omega
/-- both parts below 2 ^ k -/
def Sz (k : Nat) (q : Rat) : Prop := q.num.natAbs < 2 ^ k ∧ q.den < 2 ^ k
theorem Sz.mono {k l : Nat} {q : Rat} (h : Sz k q) (hl : k ≤ l) : Sz l q := ⟨lt_mono h.1 hl, lt_mono h.2 hl⟩
theorem sz_div {a b : Int} {k : Nat} (hb : b ≠ 0) (h1 : a.natAbs < 2 ^ k) (h2 : b.natAbs < 2 ^ k) : Sz k (Rat.divInt a b) := by
  have := num_le (a := a) hb
  exact ⟨by omega, by omega⟩
theorem q_eq (q : Rat) : q = Rat.divInt q.num q.den := (Rat.num_divInt_den q).symm
theorem add_div (q r : Rat) : q + r = Rat.divInt (q.num * r.den + r.num * q.den) (q.den * r.den) := by
  have h := Rat.divInt_add_divInt q.num r.num (den_ne q) (den_ne r)
  rw [← q_eq, ← q_eq] at h
  exact h
theorem sub_div (q r : Rat) : q - r = Rat.divInt (q.num * r.den - r.num * q.den) (q.den * r.den) := by
  have h := Rat.divInt_sub_divInt q.num r.num (den_ne q) (den_ne r)
  rw [← q_eq, ← q_eq] at h
  exact h
theorem mul_div (q r : Rat) : q * r = Rat.divInt (q.num * r.num) (q.den * r.den) := by
  have h := Rat.divInt_mul_divInt q.num r.num (d₁ := q.den) (d₂ := r.den)
  rw [← q_eq, ← q_eq] at h
  exact h
theorem inv_div (r : Rat) : r⁻¹ = Rat.divInt r.den r.num := by
  have h := Rat.inv_divInt r.num r.den
  rw [← q_eq] at h
  exact h
theorem div_div (q r : Rat) : q / r = Rat.divInt (q.num * r.den) (q.den * r.num) := by
  rw [Rat.div_def, inv_div]
  conv => lhs; rw [q_eq q]
  exact Rat.divInt_mul_divInt q.num r.den (d₁ := q.den) (d₂ := r.num)
theorem nat_lt {n k : Nat} (h : n < 2 ^ k) : ((n : Nat) : Int).natAbs < 2 ^ k := by simpa using h
theorem sz_add {q r : Rat} {a b : Nat} (hq : Sz a q) (hr : Sz b r) : Sz (a + b + 1) (q + r) := by
  rw [add_div]
  refine sz_div (Int.mul_ne_zero (den_ne q) (den_ne r)) ?_ ?_
  · have h1 := mul_lt hq.1 (nat_lt hr.2)
    have h2 := mul_lt hr.1 (nat_lt hq.2)
    rw [Nat.add_comm b a] at h2
    exact add_lt h1 h2
  · exact lt_mono (mul_lt (nat_lt hq.2) (nat_lt hr.2)) (by omega)
theorem sz_sub {q r : Rat} {a b : Nat} (hq : Sz a q) (hr : Sz b r) : Sz (a + b + 1) (q - r) := by
  rw [sub_div]
  refine sz_div (Int.mul_ne_zero (den_ne q) (den_ne r)) ?_ ?_
  · have h1 := mul_lt hq.1 (nat_lt hr.2)
    have h2 := mul_lt hr.1 (nat_lt hq.2)
    rw [Nat.add_comm b a] at h2
    exact sub_lt h1 h2
  · exact lt_mono (mul_lt (nat_lt hq.2) (nat_lt hr.2)) (by omega)
theorem sz_mul {q r : Rat} {a b : Nat} (hq : Sz a q) (hr : Sz b r) : Sz (a + b) (q * r) := by
  rw [mul_div]
  exact sz_div (Int.mul_ne_zero (den_ne q) (den_ne r)) (mul_lt hq.1 hr.1) (mul_lt (nat_lt hq.2) (nat_lt hr.2))
theorem num_ne {r : Rat} (h : r ≠ 0) : r.num ≠ 0 := fun e => h (Rat.num_eq_zero.mp e)
theorem sz_over {q r : Rat} {a b : Nat} (hq : Sz a q) (hr : Sz b r) (h : r ≠ 0) : Sz (a + b) (q / r) := by
  rw [div_div]
  exact sz_div (Int.mul_ne_zero (den_ne q) (num_ne h)) (mul_lt hq.1 (nat_lt hr.2)) (mul_lt (nat_lt hq.2) hr.1)
theorem sz_neg {q : Rat} {a : Nat} (h : Sz a q) : Sz a (-q) := ⟨by rw [Rat.neg_num, Int.natAbs_neg]; exact h.1, by rw [Rat.neg_den]; exact h.2⟩
theorem sz_0 {k : Nat} (h : 0 < k := by decide) : Sz k 0 := by
  have : 1 < 2 ^ k := Nat.one_lt_two_pow (by omega)
  exact ⟨by show 0 < 2 ^ k; omega, this⟩
theorem sz_1 {k : Nat} (h : 0 < k := by decide) : Sz k 1 := by
  have : 1 < 2 ^ k := Nat.one_lt_two_pow (by omega)
  exact ⟨this, this⟩
noncomputable def Kplus (F : Fn) : Fn := mkFn 2 2 (sCons (sRet (eCall F (aCons (eOp gAdd (eOp gMul (eOp gIx (eVar 0) (eC (.int 0))) (eOp gIx (eVar 1) (eC (.int 1)))) (eOp gMul (eOp gIx (eVar 1) (eC (.int 0))) (eOp gIx (eVar 0) (eC (.int 1))))) (aCons (eOp gMul (eOp gIx (eVar 0) (eC (.int 1))) (eOp gIx (eVar 1) (eC (.int 1)))) aNil)))) sNil)
noncomputable def Kminus (F : Fn) : Fn := mkFn 2 2 (sCons (sRet (eCall F (aCons (eOp gSub (eOp gMul (eOp gIx (eVar 0) (eC (.int 0))) (eOp gIx (eVar 1) (eC (.int 1)))) (eOp gMul (eOp gIx (eVar 1) (eC (.int 0))) (eOp gIx (eVar 0) (eC (.int 1))))) (aCons (eOp gMul (eOp gIx (eVar 0) (eC (.int 1))) (eOp gIx (eVar 1) (eC (.int 1)))) aNil)))) sNil)
noncomputable def Ktimes (F : Fn) : Fn := mkFn 2 2 (sCons (sRet (eCall F (aCons (eOp gMul (eOp gIx (eVar 0) (eC (.int 0))) (eOp gIx (eVar 1) (eC (.int 0)))) (aCons (eOp gMul (eOp gIx (eVar 0) (eC (.int 1))) (eOp gIx (eVar 1) (eC (.int 1)))) aNil)))) sNil)
noncomputable def Ksign : Fn := mkFn 1 1 (sCons (sRet (eOp gSub (eCall bInt (aCons (eOp cGt (eOp gIx (eVar 0) (eC (.int 0))) (eC (.int 0))) aNil)) (eCall bInt (aCons (eOp cLt (eOp gIx (eVar 0) (eC (.int 0))) (eC (.int 0))) aNil)))) sNil)
/-- the function of two fractions that is told by f, of parts below 2 ^ 4000 -/
def IsQ2 (F : Fn) (f : Rat → Rat → Rat) : Prop := ∀ (q r : Rat) (S : Sto), Sz 4000 q → Sz 4000 r → F [rq q, rq r] S = some (rq (f q r), S)
theorem fits (q r : Rat) (hq : Sz 4000 q) (hr : Sz 4000 r) : (((q.den : Nat) : Int) * ((r.den : Nat) : Int)).natAbs < 2 ^ 9000 := lt_mono (mul_lt (nat_lt hq.2) (nat_lt hr.2)) (by decide)
theorem plus_ok {F : Fn} (hF : IsFrac F) : IsQ2 (Kplus F) (· + ·) := by
  intro q r S hq hr
  have w1 : wideM q.num r.den := wideM_of hq.1 (nat_lt hr.2)
  have w2 : wideM r.num q.den := wideM_of hr.1 (nat_lt hq.2)
  have w3 : wideM q.den r.den := wideM_of (nat_lt hq.2) (nat_lt hr.2)
  have f := hF (q.num * r.den + r.num * q.den) _ S (Int.mul_ne_zero (den_ne q) (den_ne r)) (fits q r hq hr)
  refine mk_same [some (rq q), some (rq r)] (env' := [some (rq q), some (rq r)]) ?_
  simp [ix_q0, ix_q1, x_mul w1, x_mul w2, x_mul w3, f, add_div]
theorem minus_ok {F : Fn} (hF : IsFrac F) : IsQ2 (Kminus F) (· - ·) := by
  intro q r S hq hr
  have w1 : wideM q.num r.den := wideM_of hq.1 (nat_lt hr.2)
  have w2 : wideM r.num q.den := wideM_of hr.1 (nat_lt hq.2)
  have w3 : wideM q.den r.den := wideM_of (nat_lt hq.2) (nat_lt hr.2)
  have f := hF (q.num * r.den - r.num * q.den) _ S (Int.mul_ne_zero (den_ne q) (den_ne r)) (fits q r hq hr)
  refine mk_same [some (rq q), some (rq r)] (env' := [some (rq q), some (rq r)]) ?_
  simp [ix_q0, ix_q1, x_mul w1, x_mul w2, x_mul w3, f, sub_div]
theorem times_ok {F : Fn} (hF : IsFrac F) : IsQ2 (Ktimes F) (· * ·) := by
  intro q r S hq hr
  have w1 : wideM q.num r.num := wideM_of hq.1 hr.1
  have w3 : wideM q.den r.den := wideM_of (nat_lt hq.2) (nat_lt hr.2)
  have f := hF (q.num * r.num) _ S (Int.mul_ne_zero (den_ne q) (den_ne r)) (fits q r hq hr)
  refine mk_same [some (rq q), some (rq r)] (env' := [some (rq q), some (rq r)]) ?_
  simp [ix_q0, ix_q1, x_mul w1, x_mul w3, f, mul_div]
def sgn (q : Rat) : Int := (if 0 < q.num then 1 else 0) - (if q.num < 0 then 1 else 0)
theorem sign_ok (q : Rat) (S : Sto) : Ksign [rq q] S = some (.int (sgn q), S) := by
  refine mk_same [some (rq q)] (env' := [some (rq q)]) ?_
  simp [ix_q0, sgn]
/-! ### draws of fractions -/
noncomputable def Kfigures (F : Fn) : Fn := mkFn 1 2 (sCons (sAsg (eCall F (aCons (eVar 0) (aCons (eC (.int 4)) aNil))) (ML.gName 1)) (sCons (sIf (asB (eOp cLt (eVar 1) (eC (.int 2)))) (sCons (sRet (eCall F (aCons (eVar 0) (aCons (eC (.int 12)) aNil)))) sNil) sNil) (sCons (sIf (asB (eOp cEq (eVar 1) (eC (.int 2)))) (sCons (sRet (eOp gAdd (eOp gMul (eCall F (aCons (eVar 0) (aCons (eC (.int 1000)) aNil))) (eC (.int 1000))) (eCall F (aCons (eVar 0) (aCons (eC (.int 1000)) aNil))))) sNil) sNil) (sCons (sRet (eOp gSub (eC (.int 999999)) (eCall F (aCons (eVar 0) (aCons (eC (.int 3)) aNil))))) sNil))))
def IsFigures (F : Fn) : Prop := ∀ (m : Nat) (rest : List Ob) (S : Sto), Dk m rest S → m < 2 ^ 38 → ∃ (v : Int) (S' : Sto), 0 ≤ v ∧ v < 1000000 ∧ F [.loc 2] S = some (.int v, S') ∧ Dk (m + 3) rest S'
theorem figures_ok {F : Fn} (h_take : IsTake F) : IsFigures (Kfigures F) := by
  intro m rest S h hm
  obtain ⟨k, S1, a0, a1, a2, a3⟩ := h_take m rest S 4 h (by omega) (by decide) (by decide)
  by_cases c1 : k < 2
  · obtain ⟨v, S2, b0, b1, b2, b3⟩ := h_take _ rest S1 12 a3 (by omega) (by decide) (by decide)
    refine ⟨v, S2, b0, by omega, mk_len (by rw [b3.len, h.len]) [some (.loc 2), none] (env' := [some (.loc 2), some (.int k)]) ?_, b3.mono (by omega)⟩
    simp [a2, b2, c1]
  · by_cases c2 : k = 2
    · obtain ⟨v, S2, b0, b1, b2, b3⟩ := h_take _ rest S1 1000 a3 (by omega) (by decide) (by decide)
      obtain ⟨u, S3, e0, e1, e2, e3⟩ := h_take _ rest S2 1000 b3 (by omega) (by decide) (by decide)
      have w : wideM v 1000 := wideM_of (a := 20) (b := 20) (by omega) (by decide)
      refine ⟨v * 1000 + u, S3, by omega, by omega, mk_len (by rw [e3.len, h.len]) [some (.loc 2), none] (env' := [some (.loc 2), some (.int k)]) ?_, e3.mono (by omega)⟩
      simp [a2, b2, e2, c2, x_mul w]
    · obtain ⟨v, S2, b0, b1, b2, b3⟩ := h_take _ rest S1 3 a3 (by omega) (by decide) (by decide)
      refine ⟨999999 - v, S2, by omega, by omega, mk_len (by rw [b3.len, h.len]) [some (.loc 2), none] (env' := [some (.loc 2), some (.int k)]) ?_, b3.mono (by omega)⟩
      simp [a2, b2, c1, c2]
noncomputable def Kfraction (Fg Ft Fs : Fn) : Fn := mkFn 1 2 (sCons (sAsg (eOp gMul (eCall Fg (aCons (eVar 0) aNil)) (eOp gSub (eC (.int 1)) (eOp gMul (eC (.int 2)) (eCall Ft (aCons (eVar 0) (aCons (eC (.int 2)) aNil)))))) (ML.gName 1)) (sCons (sRet (eCall Fs (aCons (eVar 1) (aCons (eCall bMax (aCons (eC (.int 1)) (aCons (eUIx (uLst (aCons (eC (.int 1)) (aCons (eCall Fg (aCons (eVar 0) aNil)) aNil))) (eCall Ft (aCons (eVar 0) (aCons (eC (.int 2)) aNil)))) aNil))) aNil)))) sNil))
/-- a draw of a fraction below 2 ^ k -/
def IsDraw (F : Fn) (k n : Nat) : Prop := ∀ (m : Nat) (rest : List Ob) (S : Sto), Dk m rest S → m < 2 ^ 37 → ∃ (q : Rat) (S' : Sto), Sz k q ∧ F [.loc 2] S = some (rq q, S') ∧ Dk (m + n) rest S'
theorem fraction_ok {Fg Ft Fs : Fn} (figures : IsFigures Fg) (h_take : IsTake Ft) (h_share : IsFrac Fs) : IsDraw (Kfraction Fg Ft Fs) 20 8 := by
  intro m rest S h hm
  obtain ⟨v, S1, a0, a1, a2, a3⟩ := figures m rest S h (by omega)
  obtain ⟨k, S2, b0, b1, b2, b3⟩ := h_take _ rest S1 2 a3 (by omega) (by decide) (by decide)
  obtain ⟨u, S3, c0, c1, c2, c3⟩ := figures _ rest S2 b3 (by omega)
  obtain ⟨l, S4, d0, d1, d2, d3⟩ := h_take _ rest S3 2 c3 (by omega) (by decide) (by decide)
  have w1 : wideM 2 k := wideM_of (a := 20) (b := 20) (by decide) (by omega)
  have w2 : wideM v (1 - 2 * k) := wideM_of (a := 20) (b := 20) (by omega) (by omega)
  have hv : (v * (1 - 2 * k)).natAbs < 2 ^ 20 := by
    rcases (show k = 0 ∨ k = 1 by omega) with rfl | rfl
    · simp; omega
    · simp; omega
  have main : ∀ b : Int, 0 < b → b < 1000000 → (∃ z : Int, atI [D.int 1, D.int u] l = some (.int z) ∧ max 1 z = b) → ∃ (q : Rat) (S' : Sto), Sz 20 q ∧ Kfraction Fg Ft Fs [.loc 2] S = some (rq q, S') ∧ Dk (m + 8) rest S' := by
    intro b hb hb2 ⟨z, hx, e⟩
    have hs := h_share (v * (1 - 2 * k)) b S4 (by omega) (lt_mono (a := 20) (by omega) (by decide))
    refine ⟨Rat.divInt (v * (1 - 2 * k)) b, S4, sz_div (by omega) hv (by omega), mk_len (by rw [d3.len, h.len]) [some (.loc 2), none] (env' := [some (.loc 2), some (.int (v * (1 - 2 * k)))]) ?_, d3.mono (by omega)⟩
    simp [a2, b2, c2, d2, x_mul w1, x_mul w2, hx, e, hs]
  rcases (show l = 0 ∨ l = 1 by omega) with rfl | rfl
  · exact main 1 (by decide) (by decide) ⟨1, by simp, by decide⟩
  · by_cases hu : 0 < u
    · exact main u hu (by omega) ⟨u, by simp, by omega⟩
    · exact main 1 (by decide) (by decide) ⟨u, by simp, by omega⟩
end ML

namespace ML
open PySem PySem.Spec PyProof.Rows L2
section
variable {env : En} {S : Sto}
theorem x_for {it : IDen} {g : GDen} {b : SDen} : sFor it g b env S = (it env S).bind fun p => fRun p.1.src g b p.1.ds env p.2 := rfl
@[simp] theorem x_range1 {j : Int} {f : Den} (hf : f env S = some (.int j, S)) (h : -(2 ^ 62) ≤ j ∧ j < 2 ^ 62) : iRange1 f env S = some (⟨rngs 0 j.toNat, []⟩, S) := by
  unfold iRange1
  rw [hf]
  simp only [Option.bind_some]
  rw [if_pos h]
end
/-! ### points -/
def rp (a b c : Rat) : D := .tup [rq a, rq b, rq c]
end ML

namespace ML
open PySem PySem.Spec PyProof.Rows L2
/-! ### plain data, alike or not -/
mutual
def pd : Nat → D → Bool
  | _, .int _ => true
  | _, .non => true
  | _, .str x => (PyData.str x).canLay0
  | n, .tup ds => match n with
    | 0 => false
    | m + 1 => pdL m ds
  | _, _ => false
def pdL : Nat → List D → Bool
  | _, [] => true
  | n, d :: ds => pd n d && pdL n ds
end
mutual
theorem pd_toP : ∀ (d : D) (n : Nat), pd n d = true → ∃ p, toP d = some p ∧ p.canLay0 = true ∧ p.depth ≤ n + 1
  | .int i, n, h => ⟨_, rfl, rfl, by simp [PyData.depth]⟩
  | .non, n, h => ⟨_, rfl, rfl, by simp [PyData.depth]⟩
  | .str x, n, h => ⟨_, rfl, h, by simp [PyData.depth]⟩
  | .tup ds, 0, h => by cases h
  | .tup ds, n + 1, h => by
    obtain ⟨ps, h1, h2, h3⟩ := pd_toPL ds n (by simpa only [pd] using h)
    exact ⟨.tuple ps, by simp only [toP, h1, Option.map_some], h2, by simp only [PyData.depth]; omega⟩
  | .bl _, n, h => by cases n <;> cases h
  | .loc _, n, h => by cases n <;> cases h
  | .ty _, n, h => by cases n <;> cases h
  | .fn _, n, h => by cases n <;> cases h
theorem pd_toPL : ∀ (ds : List D) (n : Nat), pdL n ds = true → ∃ ps, toPL ds = some ps ∧ PyData.canLayAll0 ps = true ∧ PyData.depthAll ps ≤ n + 1
  | [], n, h => ⟨[], rfl, rfl, by simp [PyData.depthAll]⟩
  | d :: ds, n, h => by
    simp only [pdL, Bool.and_eq_true] at h
    obtain ⟨p, a1, a2, a3⟩ := pd_toP d n h.1
    obtain ⟨ps, b1, b2, b3⟩ := pd_toPL ds n h.2
    exact ⟨p :: ps, by simp only [toPL, a1, b1, Option.bind_some, Option.map_some], by simp only [PyData.canLayAll0, a2, b2, Bool.and_self], by simp only [PyData.depthAll]; omega⟩
end
mutual
theorem pd_eqv : ∀ (d e : D) (n m : Nat) (p q : PyData), pd n d = true → pd m e = true → toP d = some p → toP e = some q → (PyData.eqv p q = true ↔ d = e)
  | .tup ds, .tup es, n + 1, m + 1, p, q, h1, h2, e1, e2 => by
    simp only [toP] at e1 e2
    obtain ⟨ps, x1, rfl⟩ := Option.map_eq_some_iff.mp e1
    obtain ⟨qs, x2, rfl⟩ := Option.map_eq_some_iff.mp e2
    have := pd_eqvL ds es n m ps qs (by simpa only [pd] using h1) (by simpa only [pd] using h2) x1 x2
    simp only [PyData.eqv, this, D.tup.injEq]
  | .tup ds, _, 0, _, p, q, h1, h2, e1, e2 => by cases h1
  | _, .tup ds, _, 0, p, q, h1, h2, e1, e2 => by cases h2
  | .int i, .int j, n, m, p, q, h1, h2, e1, e2 => by cases e1; cases e2; simp [PyData.eqv]
  | .str i, .str j, n, m, p, q, h1, h2, e1, e2 => by cases e1; cases e2; simp [PyData.eqv]
  | .non, .non, n, m, p, q, h1, h2, e1, e2 => by cases e1; cases e2; simp [PyData.eqv]
  | .int i, .str j, n, m, p, q, h1, h2, e1, e2 => by cases e1; cases e2; simp [PyData.eqv]
  | .int i, .non, n, m, p, q, h1, h2, e1, e2 => by cases e1; cases e2; simp [PyData.eqv]
  | .str i, .int j, n, m, p, q, h1, h2, e1, e2 => by cases e1; cases e2; simp [PyData.eqv]
  | .str i, .non, n, m, p, q, h1, h2, e1, e2 => by cases e1; cases e2; simp [PyData.eqv]
  | .non, .int j, n, m, p, q, h1, h2, e1, e2 => by cases e1; cases e2; simp [PyData.eqv]
  | .non, .str j, n, m, p, q, h1, h2, e1, e2 => by cases e1; cases e2; simp [PyData.eqv]
  | .int i, .tup es, n, m + 1, p, q, h1, h2, e1, e2 => by
    simp only [toP] at e1 e2
    obtain ⟨qs, x2, rfl⟩ := Option.map_eq_some_iff.mp e2
    cases e1; simp [PyData.eqv]
  | .str i, .tup es, n, m + 1, p, q, h1, h2, e1, e2 => by
    simp only [toP] at e1 e2
    obtain ⟨qs, x2, rfl⟩ := Option.map_eq_some_iff.mp e2
    cases e1; simp [PyData.eqv]
  | .non, .tup es, n, m + 1, p, q, h1, h2, e1, e2 => by
    simp only [toP] at e1 e2
    obtain ⟨qs, x2, rfl⟩ := Option.map_eq_some_iff.mp e2
    cases e1; simp [PyData.eqv]
  | .tup es, .int i, n + 1, m, p, q, h1, h2, e1, e2 => by
    simp only [toP] at e1 e2
    obtain ⟨qs, x2, rfl⟩ := Option.map_eq_some_iff.mp e1
    cases e2; simp [PyData.eqv]
  | .tup es, .str i, n + 1, m, p, q, h1, h2, e1, e2 => by
    simp only [toP] at e1 e2
    obtain ⟨qs, x2, rfl⟩ := Option.map_eq_some_iff.mp e1
    cases e2; simp [PyData.eqv]
  | .tup es, .non, n + 1, m, p, q, h1, h2, e1, e2 => by
    simp only [toP] at e1 e2
    obtain ⟨qs, x2, rfl⟩ := Option.map_eq_some_iff.mp e1
    cases e2; simp [PyData.eqv]
  | .bl _, _, n, m, p, q, h1, h2, e1, e2 => by cases n <;> cases h1
  | .loc _, _, n, m, p, q, h1, h2, e1, e2 => by cases n <;> cases h1
  | .ty _, _, n, m, p, q, h1, h2, e1, e2 => by cases n <;> cases h1
  | .fn _, _, n, m, p, q, h1, h2, e1, e2 => by cases n <;> cases h1
  | _, .bl _, n, m, p, q, h1, h2, e1, e2 => by cases m <;> cases h2
  | _, .loc _, n, m, p, q, h1, h2, e1, e2 => by cases m <;> cases h2
  | _, .ty _, n, m, p, q, h1, h2, e1, e2 => by cases m <;> cases h2
  | _, .fn _, n, m, p, q, h1, h2, e1, e2 => by cases m <;> cases h2
theorem pd_eqvL : ∀ (ds es : List D) (n m : Nat) (ps qs : List PyData), pdL n ds = true → pdL m es = true → toPL ds = some ps → toPL es = some qs → (PyData.eqvAll ps qs = true ↔ ds = es)
  | [], [], n, m, ps, qs, h1, h2, e1, e2 => by cases e1; cases e2; simp [PyData.eqvAll]
  | d :: ds, [], n, m, ps, qs, h1, h2, e1, e2 => by
    simp only [toPL] at e1 e2
    obtain ⟨p, a1, e1⟩ := Option.bind_eq_some_iff.mp e1
    obtain ⟨ps', a2, rfl⟩ := Option.map_eq_some_iff.mp e1
    cases e2; simp [PyData.eqvAll]
  | [], d :: ds, n, m, ps, qs, h1, h2, e1, e2 => by
    simp only [toPL] at e1 e2
    obtain ⟨p, a1, e2⟩ := Option.bind_eq_some_iff.mp e2
    obtain ⟨ps', a2, rfl⟩ := Option.map_eq_some_iff.mp e2
    cases e1; simp [PyData.eqvAll]
  | d :: ds, e :: es, n, m, ps, qs, h1, h2, e1, e2 => by
    simp only [toPL] at e1 e2
    obtain ⟨p, a1, e1⟩ := Option.bind_eq_some_iff.mp e1
    obtain ⟨ps', a2, rfl⟩ := Option.map_eq_some_iff.mp e1
    obtain ⟨q, b1, e2⟩ := Option.bind_eq_some_iff.mp e2
    obtain ⟨qs', b2, rfl⟩ := Option.map_eq_some_iff.mp e2
    simp only [pdL, Bool.and_eq_true] at h1 h2
    have x := pd_eqv d e n m p q h1.1 h2.1 a1 b1
    have y := pd_eqvL ds es n m ps' qs' h1.2 h2.2 a2 b2
    simp only [PyData.eqvAll, Bool.and_eq_true, x, y, List.cons.injEq]
end
theorem toPS_pd {S : Sto} {d : D} {n : Nat} (h : pd n d = true) : toPS S d = toP d := by
  cases d with
  | loc l => cases n <;> cases h
  | _ => rfl
theorem eqP_pd {S : Sto} {d e : D} {n m : Nat} (h1 : pd n d = true) (h2 : pd m e = true) (hn : n ≤ 60 := by decide) (hm : m ≤ 60 := by decide) : ∃ k, eqP S d e = some k ∧ (k = true ↔ d = e) := by
  obtain ⟨p, a1, a2, a3⟩ := pd_toP d n h1
  obtain ⟨q, b1, b2, b3⟩ := pd_toP e m h2
  have s1 : SeqAt.shaped p = true := by unfold SeqAt.shaped; rw [a2, decide_eq_true (by omega)]; rfl
  have s2 : SeqAt.shaped q = true := by unfold SeqAt.shaped; rw [b2, decide_eq_true (by omega)]; rfl
  exact ⟨_, by rw [eqP, toPS_pd h1, toPS_pd h2, a1, b1]; simp only [Option.bind_some, s1, s2, Bool.and_self, if_true], pd_eqv d e n m p q h1 h2 a1 b1⟩
theorem rq_inj {q r : Rat} : rq q = rq r ↔ q = r := by
  unfold rq
  simp only [D.tup.injEq, List.cons.injEq, D.int.injEq, and_true]
  exact ⟨fun ⟨a, b⟩ => Rat.ext a (by omega), fun e => by subst e; exact ⟨rfl, rfl⟩⟩
section
variable {env : En} {S : Sto} {f : Den} {l h : ODen} {fu : ADen}
@[simp] theorem x_rev : uRev f env S = (f env S).bind fun p => match p.1 with
  | .loc m => (lsAt p.2 m).map fun xs => (xs.reverse, p.2)
  | _ => none := rfl
@[simp] theorem x_esl : eSl f l h env S = (f env S).bind fun p => (l env p.2).bind fun q => (h env q.2).bind fun r => match p.1 with
  | .tup xs => some (.tup (cutD xs q.1 r.1), r.2)
  | .loc m => (lsAt r.2 m).map fun xs => (.loc r.2.length, r.2 ++ [.lst (cutD xs q.1 r.1)])
  | _ => none := rfl
@[simp] theorem x_izip : iZip fu env S = (fu env S).bind fun p => match p.1 with
  | [.tup xs, .tup ys] => some (⟨zipD xs ys, []⟩, p.2)
  | [.loc l, .loc m] => match p.2[l]?, p.2[m]? with
    | some (.lst xs), some (.lst ys) => some (⟨zipD xs ys, [(l, .lst xs), (m, .lst ys)]⟩, p.2)
    | _, _ => none
  | _ => none := rfl
@[simp] theorem x_isb {a b : Bool} : cIs (.bl a) (.bl b) S = some (.bl (decide (a = b)), S) := rfl
@[simp] theorem x_isnb {a b : Bool} : cIsNot (.bl a) (.bl b) S = some (.bl (!decide (a = b)), S) := rfl
@[simp] theorem x_onone : oNone env S = some (none, S) := rfl
@[simp] theorem x_osome {i : Int} : oSome (eC (.int i)) env S = some (some i, S) := rfl
end
/-! ### loops that leave the store -/
end ML

namespace ML
open PySem PySem.Spec PyProof.Rows L2
section
variable {S T : Sto} {o : Ob} {n : Nat}
@[simp] theorem get_app0 : (S ++ o :: T)[S.length]? = some o := by
  rw [List.getElem?_append_right (Nat.le_refl _)]; simp
@[simp] theorem get_appn : (S ++ T)[S.length + n]? = T[n]? := by
  rw [List.getElem?_append_right (by omega)]; simp
@[simp] theorem lsAt_app0 : lsAt (S ++ o :: T) S.length = o.xs? := by
  rw [lsAt, get_app0]; rfl
@[simp] theorem lsAt_appn : lsAt (S ++ T) (S.length + n) = lsAt T n := by
  rw [lsAt, get_appn]; rfl
end
/-! texts of numbers -/
@[simp] theorem x_str {i : Int} {S : Sto} (h : i.natAbs.log2 < 1920) : bStr [.int i] S = some (.str (toString i), S) := if_pos h
@[simp] theorem x_dk1 {f g : Den} {env : En} {S : Sto} : eDk1 f g env S = (f env S).bind fun p => (g env p.2).bind fun q => (dKy p.1).map fun k => (.loc q.2.length, q.2 ++ [.dk [(k, q.1)]]) := rfl
@[simp] theorem x_li {f : Den} {env : En} {S : Sto} : uLi f env S = (f env S).bind fun p => match p.1 with
  | .tup xs => some (xs, p.2)
  | .loc m => (lsAt p.2 m).map fun xs => (xs, p.2)
  | _ => none := rfl
@[simp] theorem x_addLL {S : Sto} {l m : Nat} : gAdd (.loc l) (.loc m) S = match S[l]?, S[m]? with
    | some (.lst x), some (.lst y) => if x.length + y.length ≤ sizeLine then some (D.loc S.length, S ++ [Ob.lst (x ++ y)]) else none
    | _, _ => none := rfl
@[simp] theorem x_osomeG {f : Den} {env : En} {S : Sto} : oSome f env S = (f env S).bind fun p => match p.1 with
  | .int i => some (some i, p.2)
  | _ => none := rfl
theorem Dk.get {m : Nat} {rest : List Ob} {S : Sto} (h : Dk m rest S) (i : Nat) : S[i + 3]? = rest[i]? := by
  obtain ⟨ns, parts, i, j, e, a, b, c, d⟩ := h.ex
  rw [e]; rfl
end ML

namespace ML
open PySem PySem.Spec PyProof.Rows L2
/-! ### stores that name only what they have -/
def Wf (S : Sto) : Prop := ∀ o ∈ S, o.bel S.length = true
theorem Wf.set {S : Sto} {o : Ob} {l : Nat} (h : Wf S) (ho : o.bel S.length = true) : Wf (S.set l o) := by
  intro x hx
  rw [List.length_set]
  rcases List.mem_or_eq_of_mem_set hx with e | e
  · exact h x e
  · rw [e]; exact ho
/-! ### the second way of drawing -/
structure Nx (p q n : Nat) (S : Sto) : Prop where
  wf : Wf S
  ex : ∃ (nums : List Int) (i r s : Int), S[p]? = some (.lst (nums.map .int)) ∧ S[q]? = some (.lst [.loc p, .int i, .int r, .int s]) ∧ nums ≠ [] ∧ nums.length ≤ 1000 ∧ 0 ≤ i ∧ i ≤ n ∧ 0 ≤ s ∧ s < 2 ^ 61
  ne : p ≠ q
/-- all objects but the one at q stand as they were -/
def Same (q : Nat) (S S' : Sto) : Prop := S'.length = S.length ∧ ∀ l, l ≠ q → S'[l]? = S[l]?
theorem Same.refl (q : Nat) (S : Sto) : Same q S S := ⟨rfl, fun _ _ => rfl⟩
theorem Same.trans {q : Nat} {S S1 S2 : Sto} (a : Same q S S1) (b : Same q S1 S2) : Same q S S2 := ⟨b.1.trans a.1, fun l h => (b.2 l h).trans (a.2 l h)⟩
theorem Same.set {q : Nat} {S : Sto} {o : Ob} : Same q S (S.set q o) := ⟨by simp, fun l h => by rw [List.getElem?_set_ne (Ne.symm h)]⟩
theorem Nx.mono {p q n m : Nat} {S : Sto} (h : Nx p q n S) (hm : n ≤ m) : Nx p q m S := by
  obtain ⟨wf, ⟨nums, i, r, s, h1, h2, h3, h4, h5, h6, h7, h8⟩, ne⟩ := h
  exact ⟨wf, ⟨nums, i, r, s, h1, h2, h3, h4, h5, by omega, h7, h8⟩, ne⟩
theorem Nx.lt {p q n : Nat} {S : Sto} (h : Nx p q n S) : p < S.length ∧ q < S.length := by
  obtain ⟨wf, ⟨nums, i, r, s, h1, h2, _⟩, ne⟩ := h
  exact ⟨(List.getElem?_eq_some_iff.mp h1).1, (List.getElem?_eq_some_iff.mp h2).1⟩
theorem Nx.set {p q n l : Nat} {S : Sto} {o : Ob} (h : Nx p q n S) (ho : o.bel S.length = true) (hp : l ≠ p) (hq : l ≠ q) : Nx p q n (S.set l o) := by
  obtain ⟨wf, ⟨nums, i, r, s, h1, h2, h3⟩, ne⟩ := h
  exact ⟨wf.set ho, ⟨nums, i, r, s, by rw [List.getElem?_set_ne hp]; exact h1, by rw [List.getElem?_set_ne hq]; exact h2, h3⟩, ne⟩
/-! a fraction over what is above nought -/
/-! ### alike, by turns -/
end ML

namespace ML
open PySem PySem.Spec PyProof.Rows L2
/-! ### the deck with the longer mixing -/
/-! ### the third way to the greatest part -/
end ML

/-! ### numbers with roots, as rows of fractions that draw together -/
namespace RT
open Classical
abbrev Q := Nat → Rat
def IsC (f : Q) : Prop := ∀ e : Rat, 0 < e → ∃ N, ∀ m n, N ≤ m → N ≤ n → f m - f n < e
def P (f : Q) : Prop := ∃ e : Rat, 0 < e ∧ ∃ N, ∀ n, N ≤ n → e < f n
def Z (f : Q) : Prop := ∀ e : Rat, 0 < e → ∃ N, ∀ n, N ≤ n → -e < f n ∧ f n < e
theorem half_pos {e : Rat} (h : 0 < e) : 0 < e / 2 := by grind
theorem IsC.const (q : Rat) : IsC fun _ => q := fun e he => ⟨0, fun m n _ _ => by grind⟩
theorem IsC.add {f g : Q} (hf : IsC f) (hg : IsC g) : IsC fun n => f n + g n := fun e he => by
  obtain ⟨N, hN⟩ := hf (e / 2) (half_pos he)
  obtain ⟨M, hM⟩ := hg (e / 2) (half_pos he)
  refine ⟨max N M, fun m n h1 h2 => ?_⟩
  have a := hN m n (by omega) (by omega)
  have b := hM m n (by omega) (by omega)
  grind
theorem IsC.neg {f : Q} (hf : IsC f) : IsC fun n => -f n := fun e he => by
  obtain ⟨N, hN⟩ := hf e he
  exact ⟨N, fun m n h1 h2 => by have := hN n m h2 h1; grind⟩
theorem IsC.sub {f g : Q} (hf : IsC f) (hg : IsC g) : IsC fun n => f n - g n := fun e he => by
  obtain ⟨N, hN⟩ := (hf.add hg.neg) e he
  exact ⟨N, fun m n h1 h2 => by have := hN m n h1 h2; grind⟩
/-- a row that draws together is bounded -/
theorem IsC.bound {f : Q} (hf : IsC f) : ∃ B : Rat, 0 < B ∧ ∃ N, ∀ n, N ≤ n → -B < f n ∧ f n < B := by
  obtain ⟨N, hN⟩ := hf 1 (by decide)
  by_cases h : 0 ≤ f N
  · refine ⟨f N + 1, by grind, N, fun n hn => ?_⟩
    have a := hN n N hn (Nat.le_refl _)
    have b := hN N n (Nat.le_refl _) hn
    constructor <;> grind
  · refine ⟨-f N + 1, by grind, N, fun n hn => ?_⟩
    have a := hN n N hn (Nat.le_refl _)
    have b := hN N n (Nat.le_refl _) hn
    constructor <;> grind
theorem mul_small {x y B e : Rat} (hB : 0 < B) (hx : -B < x ∧ x < B) (hy : -(e / B) < y ∧ y < e / B) (he : 0 < e) : -e < x * y ∧ x * y < e := by
  have h1 : B * (e / B) = e := by
    rw [Rat.div_def, Rat.mul_comm e, ← Rat.mul_assoc, Rat.mul_inv_cancel B (by grind), Rat.one_mul]
  have hd : 0 < e / B := by
    rw [Rat.div_def]
    exact Rat.mul_pos he (Rat.inv_pos.mpr hB)
  generalize e / B = d at *
  have a := Rat.mul_pos (show 0 < B - x by grind) (show 0 < d + y by grind)
  have b := Rat.mul_pos (show 0 < B + x by grind) (show 0 < d - y by grind)
  have c := Rat.mul_pos (show 0 < B - x by grind) (show 0 < d - y by grind)
  have f := Rat.mul_pos (show 0 < B + x by grind) (show 0 < d + y by grind)
  constructor <;> grind
theorem Z.mul {f g : Q} (hf : IsC f) (hg : Z g) : Z fun n => f n * g n := fun e he => by
  obtain ⟨B, hB, N, hN⟩ := hf.bound
  have hd : 0 < e / B := by
    rw [Rat.div_def]
    exact Rat.mul_pos he (Rat.inv_pos.mpr hB)
  obtain ⟨M, hM⟩ := hg (e / B) hd
  exact ⟨max N M, fun n hn => mul_small hB (hN n (by omega)) (hM n (by omega)) he⟩
theorem IsC.mul {f g : Q} (hf : IsC f) (hg : IsC g) : IsC fun n => f n * g n := fun e he => by
  obtain ⟨B, hB, N1, h1⟩ := hf.bound
  obtain ⟨C, hC, N2, h2⟩ := hg.bound
  have he2 : 0 < e / 2 := half_pos he
  have d1 : 0 < e / 2 / B := by
    rw [Rat.div_def (e / 2)]
    exact Rat.mul_pos he2 (Rat.inv_pos.mpr hB)
  have d2 : 0 < e / 2 / C := by
    rw [Rat.div_def (e / 2)]
    exact Rat.mul_pos he2 (Rat.inv_pos.mpr hC)
  obtain ⟨N3, h3⟩ := hg _ d1
  obtain ⟨N4, h4⟩ := hf _ d2
  refine ⟨max (max N1 N2) (max N3 N4), fun m n hm hn => ?_⟩
  have a1 := h3 m n (by omega) (by omega)
  have a2 := h3 n m (by omega) (by omega)
  have b1 := h4 m n (by omega) (by omega)
  have b2 := h4 n m (by omega) (by omega)
  have c1 := (mul_small (x := f m) (y := g m - g n) hB (h1 m (by omega)) ⟨by grind, a1⟩ he2).2
  have c2 := (mul_small (x := g n) (y := f m - f n) hC (h2 n (by omega)) ⟨by grind, b1⟩ he2).2
  have e3 : f m * g m - f n * g n = f m * (g m - g n) + g n * (f m - f n) := by grind
  rw [e3]
  grind
theorem tri {f : Q} (hf : IsC f) : P f ∨ P (fun n => -f n) ∨ Z f := by
  by_cases hz : Z f
  · exact .inr (.inr hz)
  · unfold Z at hz
    simp only [Classical.not_forall, not_exists] at hz
    obtain ⟨e, he, h⟩ := hz
    obtain ⟨N, hN⟩ := hf (e / 2) (half_pos he)
    obtain ⟨n, hn, h2⟩ := h N
    by_cases c : f n < e
    · have : ¬ -e < f n := fun c2 => h2 ⟨c2, c⟩
      refine .inr (.inl ⟨e / 4, by grind, N, fun m hm => ?_⟩)
      have := hN m n hm hn
      grind
    · refine .inl ⟨e / 4, by grind, N, fun m hm => ?_⟩
      have := hN n m hn hm
      grind
theorem P.add {f g : Q} (hf : P f) (hg : P g) : P fun n => f n + g n := by
  obtain ⟨e, he, N, hN⟩ := hf
  obtain ⟨d, hd, M, hM⟩ := hg
  exact ⟨e, he, max N M, fun n hn => by have := hN n (by omega); have := hM n (by omega); grind⟩
theorem P.addZ {f g : Q} (hf : P f) (hg : Z g) : P fun n => f n + g n := by
  obtain ⟨e, he, N, hN⟩ := hf
  obtain ⟨M, hM⟩ := hg (e / 2) (half_pos he)
  exact ⟨e / 2, half_pos he, max N M, fun n hn => by have := hN n (by omega); have := hM n (by omega); grind⟩
theorem Z.add {f g : Q} (hf : Z f) (hg : Z g) : Z fun n => f n + g n := fun e he => by
  obtain ⟨N, hN⟩ := hf (e / 2) (half_pos he)
  obtain ⟨M, hM⟩ := hg (e / 2) (half_pos he)
  exact ⟨max N M, fun n hn => by have := hN n (by omega); have := hM n (by omega); grind⟩
theorem Z.neg {f : Q} (hf : Z f) : Z fun n => -f n := fun e he => by
  obtain ⟨N, hN⟩ := hf e he
  exact ⟨N, fun n hn => by have := hN n hn; grind⟩
theorem P.mul {f g : Q} (hf : P f) (hg : P g) : P fun n => f n * g n := by
  obtain ⟨e, he, N, hN⟩ := hf
  obtain ⟨d, hd, M, hM⟩ := hg
  refine ⟨e * d, Rat.mul_pos he hd, max N M, fun n hn => ?_⟩
  have a := hN n (by omega)
  have b := hM n (by omega)
  have c := Rat.mul_pos (show 0 < f n - e by grind) (show 0 < g n by grind)
  have k := Rat.mul_pos he (show 0 < g n - d by grind)
  grind
theorem P.notZ {f : Q} (hf : P f) : ¬ Z f := fun hz => by
  obtain ⟨e, he, N, hN⟩ := hf
  obtain ⟨M, hM⟩ := hz e he
  have a := hN (max N M) (by omega)
  have b := hM (max N M) (by omega)
  grind
theorem P.notN {f : Q} (hf : P f) : ¬ P (fun n => -f n) := fun hg => by
  obtain ⟨e, he, N, hN⟩ := hf
  obtain ⟨d, hd, M, hM⟩ := hg
  have a := hN (max N M) (by omega)
  have b := hM (max N M) (by omega)
  grind
/-- which side of nought -/
noncomputable def sg (f : Q) : Int := if P f then 1 else if P (fun n => -f n) then -1 else 0
theorem sg_P {f : Q} (h : P f) : sg f = 1 := if_pos h
theorem sg_N {f : Q} (h : P (fun n => -f n)) : sg f = -1 := by
  unfold sg
  rw [if_neg (fun c => P.notN c h), if_pos h]
theorem sg_Z {f : Q} (h : Z f) : sg f = 0 := by
  unfold sg
  rw [if_neg (fun c => c.notZ h), if_neg (fun c => c.notZ h.neg)]
theorem sg_cases {f : Q} (hf : IsC f) : (sg f = 1 ∧ P f) ∨ (sg f = -1 ∧ P (fun n => -f n)) ∨ (sg f = 0 ∧ Z f) := by
  rcases tri hf with h | h | h
  · exact .inl ⟨sg_P h, h⟩
  · exact .inr (.inl ⟨sg_N h, h⟩)
  · exact .inr (.inr ⟨sg_Z h, h⟩)
theorem cg {f g : Q} (h : ∀ n, f n = g n) : f = g := funext h
theorem sg_neg {f : Q} (hf : IsC f) : sg (fun n => -f n) = -sg f := by
  rcases sg_cases hf with ⟨e, h⟩ | ⟨e, h⟩ | ⟨e, h⟩
  · rw [e]
    refine sg_N ?_
    rw [show (fun n => - -f n) = f from cg fun n => by grind]
    exact h
  · rw [e]; exact sg_P h
  · rw [e]; exact sg_Z h.neg
theorem sg_mul {f g : Q} (hf : IsC f) (hg : IsC g) : sg (fun n => f n * g n) = sg f * sg g := by
  rcases sg_cases hf with ⟨e, h⟩ | ⟨e, h⟩ | ⟨e, h⟩
  · rcases sg_cases hg with ⟨e2, h2⟩ | ⟨e2, h2⟩ | ⟨e2, h2⟩
    · rw [e, e2]; exact sg_P (h.mul h2)
    · rw [e, e2]
      refine sg_N ?_
      rw [show (fun n => -(f n * g n)) = fun n => f n * -g n from cg fun n => by grind]
      exact h.mul h2
    · rw [e, e2]; exact sg_Z (Z.mul hf h2)
  · rcases sg_cases hg with ⟨e2, h2⟩ | ⟨e2, h2⟩ | ⟨e2, h2⟩
    · rw [e, e2]
      refine sg_N ?_
      rw [show (fun n => -(f n * g n)) = fun n => -f n * g n from cg fun n => by grind]
      exact h.mul h2
    · rw [e, e2]
      refine sg_P ?_
      rw [show (fun n => f n * g n) = fun n => -f n * -g n from cg fun n => by grind]
      exact h.mul h2
    · rw [e, e2]; exact sg_Z (Z.mul hf h2)
  · rw [e, Int.zero_mul]
    refine sg_Z ?_
    rw [show (fun n => f n * g n) = fun n => g n * f n from cg fun n => by grind]
    exact Z.mul hg h
/-- a null row more -/
theorem sg_addZ {f g : Q} (hf : IsC f) (hg : IsC g) (h : sg g = 0) : sg (fun n => f n + g n) = sg f := by
  have hz : Z g := by
    rcases sg_cases hg with ⟨e, _⟩ | ⟨e, _⟩ | ⟨_, h⟩
    · omega
    · omega
    · exact h
  rcases sg_cases hf with ⟨e, k⟩ | ⟨e, k⟩ | ⟨e, k⟩
  · rw [e]; exact sg_P (k.addZ hz)
  · rw [e]
    refine sg_N ?_
    rw [show (fun n => -(f n + g n)) = fun n => -f n + -g n from cg fun n => by grind]
    exact k.addZ hz.neg
  · rw [e]; exact sg_Z (k.add hz)
theorem sg_same {f g : Q} (hf : IsC f) (hg : IsC g) (h : sg f = sg g) : sg (fun n => f n + g n) = sg f := by
  rcases sg_cases hf with ⟨e, k⟩ | ⟨e, k⟩ | ⟨e, k⟩
  · rcases sg_cases hg with ⟨e2, k2⟩ | ⟨e2, k2⟩ | ⟨e2, k2⟩
    · rw [e]; exact sg_P (k.add k2)
    · omega
    · omega
  · rcases sg_cases hg with ⟨e2, k2⟩ | ⟨e2, k2⟩ | ⟨e2, k2⟩
    · omega
    · rw [e]
      refine sg_N ?_
      rw [show (fun n => -(f n + g n)) = fun n => -f n + -g n from cg fun n => by grind]
      exact k.add k2
    · omega
  · exact sg_addZ hf hg (by omega)
theorem sg_const (q : Rat) : sg (fun _ => q) = if 0 < q then 1 else if q < 0 then -1 else 0 := by
  split
  · rename_i h; exact sg_P ⟨q / 2, half_pos h, 0, fun _ _ => by grind⟩
  · split
    · rename_i h; exact sg_N ⟨-q / 2, by grind, 0, fun _ _ => by grind⟩
    · have : q = 0 := by grind
      subst this
      exact sg_Z fun e he => ⟨0, fun _ _ => by constructor <;> grind⟩
end RT

namespace RT
open Classical
theorem sq_lt {a b : Rat} (ha : 0 ≤ a) (h : a ≤ b) : a * a ≤ b * b := by
  have h1 := Rat.mul_nonneg ha (show 0 ≤ b - a by grind)
  have h2 := Rat.mul_nonneg (show 0 ≤ b by grind) (show 0 ≤ b - a by grind)
  grind
theorem of_sq {a b : Rat} (hb : 0 ≤ b) (h : a * a < b * b) : a < b := by
  by_cases c : a < b
  · exact c
  · exfalso
    have := sq_lt hb (show b ≤ a by grind)
    grind
theorem q_mul_den (d : Rat) : d * (d.den : Rat) = (d.num : Rat) := by
  have e : d = (d.num : Rat) / (d.den : Rat) := by
    have := ML.q_eq d
    rw [Rat.divInt_eq_div] at this
    exact_mod_cast this
  have dz : (d.den : Rat) ≠ 0 := by have := d.den_nz; exact_mod_cast this
  generalize (d.num : Rat) = a at *
  generalize (d.den : Rat) = b at *
  rw [e, Rat.div_def, Rat.mul_assoc, Rat.inv_mul_cancel _ dz, Rat.mul_one]
theorem num_ge {d : Rat} (h : 0 ≤ d) : d < (d.num.natAbs : Rat) + 1 := by
  have h1 : 0 ≤ d.num := Rat.num_nonneg.mpr h
  have e : d = (d.num : Rat) / (d.den : Rat) := by
    have := ML.q_eq d
    rw [Rat.divInt_eq_div] at this
    exact_mod_cast this
  have e2 : ((d.num.natAbs : Nat) : Rat) = (d.num : Rat) := by
    have : ((d.num.natAbs : Nat) : Int) = d.num := by omega
    rw [← this]; rfl
  rw [e2]
  have dp : (1 : Rat) ≤ (d.den : Rat) := by have := d.den_pos; exact_mod_cast this
  have hm := q_mul_den d
  have := Rat.mul_nonneg h (show 0 ≤ (d.den : Rat) - 1 by grind)
  grind
theorem root_at {d i : Rat} (hd : 0 ≤ d) (hi : 0 < i) : ∀ K : Nat, d < (K * i) * (K * i) → ∃ k : Nat, (k * i) * (k * i) ≤ d ∧ d < ((k * i) + i) * ((k * i) + i)
  | 0, h => by simp at h; grind
  | K + 1, h => by
    by_cases c : d < (K * i) * (K * i)
    · exact root_at hd hi K c
    · refine ⟨K, by grind, ?_⟩
      have e : ((K + 1 : Nat) : Rat) * i = K * i + i := by push_cast; grind
      rw [e] at h
      exact h
theorem root_ex {d : Rat} (hd : 0 ≤ d) (n : Nat) : ∃ s : Rat, 0 ≤ s ∧ s * s ≤ d ∧ d < (s + 1 / ((n : Rat) + 1)) * (s + 1 / ((n : Rat) + 1)) := by
  have hn : (0 : Rat) < (n : Rat) + 1 := by
    have : (0 : Rat) ≤ (n : Rat) := by exact_mod_cast Nat.zero_le n
    grind
  have hi : 0 < 1 / ((n : Rat) + 1) := by
    rw [Rat.div_def, Rat.one_mul]
    exact Rat.inv_pos.mpr hn
  have hni : ((n : Rat) + 1) * (1 / ((n : Rat) + 1)) = 1 := by
    rw [Rat.div_def, Rat.one_mul, Rat.mul_inv_cancel _ (by grind)]
  have hM := num_ge hd
  have hb : d < (((n + 1) * (d.num.natAbs + 1) : Nat) * (1 / ((n : Rat) + 1))) * (((n + 1) * (d.num.natAbs + 1) : Nat) * (1 / ((n : Rat) + 1))) := by
    have e : (((n + 1) * (d.num.natAbs + 1) : Nat) : Rat) * (1 / ((n : Rat) + 1)) = (d.num.natAbs : Rat) + 1 := by
      push_cast
      generalize 1 / ((n : Rat) + 1) = i at *
      grind
    rw [e]
    have h0 : (0 : Rat) ≤ (d.num.natAbs : Rat) := by exact_mod_cast Nat.zero_le _
    generalize (d.num.natAbs : Rat) = M at *
    have := Rat.mul_nonneg h0 (show 0 ≤ M + 1 by grind)
    grind
  obtain ⟨k, h1, h2⟩ := root_at hd hi _ hb
  refine ⟨(k : Rat) * (1 / ((n : Rat) + 1)), Rat.mul_nonneg (by exact_mod_cast Nat.zero_le k) (by grind), h1, h2⟩
/-- the root, from below -/
noncomputable def rt (d : Rat) (n : Nat) : Rat := if h : 0 ≤ d then choose (root_ex h n) else 0
theorem rt_nn {d : Rat} (h : 0 ≤ d) (n : Nat) : 0 ≤ rt d n ∧ rt d n * rt d n ≤ d ∧ d < (rt d n + 1 / ((n : Rat) + 1)) * (rt d n + 1 / ((n : Rat) + 1)) := by
  unfold rt
  rw [dif_pos h]
  exact choose_spec (root_ex h n)
theorem small {e : Rat} (he : 0 < e) : ∃ N : Nat, ∀ n : Nat, N ≤ n → 0 < 1 / ((n : Rat) + 1) ∧ 1 / ((n : Rat) + 1) < e := by
  refine ⟨e.den, fun n hn => ?_⟩
  have hn0 : (0 : Rat) < (n : Rat) + 1 := by
    have : (0 : Rat) ≤ (n : Rat) := by exact_mod_cast Nat.zero_le n
    grind
  have hi : 0 < 1 / ((n : Rat) + 1) := by
    rw [Rat.div_def, Rat.one_mul]
    exact Rat.inv_pos.mpr hn0
  have hni : ((n : Rat) + 1) * (1 / ((n : Rat) + 1)) = 1 := by
    rw [Rat.div_def, Rat.one_mul, Rat.mul_inv_cancel _ (by grind)]
  refine ⟨hi, ?_⟩
  have e1 : e = (e.num : Rat) / (e.den : Rat) := by
    have := ML.q_eq e
    rw [Rat.divInt_eq_div] at this
    exact_mod_cast this
  have dz : (e.den : Rat) ≠ 0 := by have := e.den_nz; exact_mod_cast this
  have hm := q_mul_den e
  have hp : (1 : Rat) ≤ (e.num : Rat) := by
    have : 0 < e.num := by
      have a := Rat.num_nonneg.mpr (show 0 ≤ e by grind)
      have b : e.num ≠ 0 := fun z => by have := Rat.num_eq_zero.mp z; grind
      omega
    exact_mod_cast this
  have hd : (e.den : Rat) ≤ (n : Rat) := by exact_mod_cast hn
  generalize (n : Rat) = x at *
  generalize 1 / (x + 1) = i at *
  generalize (e.den : Rat) = D at *
  generalize (e.num : Rat) = M at *
  -- e (x + 1) > e D = M >= 1 = (x + 1) i
  have a := Rat.mul_nonneg (show 0 ≤ e by grind) (show 0 ≤ x - D by grind)
  by_cases c : i < e
  · exact c
  · exfalso
    have b := Rat.mul_nonneg (show 0 ≤ i - e by grind) (show 0 ≤ x + 1 by grind)
    grind
theorem rt_C {d : Rat} (h : 0 ≤ d) : IsC (rt d) := fun e he => by
  obtain ⟨N, hN⟩ := small he
  refine ⟨N, fun m n hm hn => ?_⟩
  obtain ⟨a1, a2, a3⟩ := rt_nn h m
  obtain ⟨b1, b2, b3⟩ := rt_nn h n
  obtain ⟨c1, c2⟩ := hN n hn
  have := of_sq (a := rt d m) (b := rt d n + 1 / ((n : Rat) + 1)) (by grind) (by grind)
  grind
theorem rt_sq {d : Rat} (h : 0 ≤ d) : sg (fun n => rt d n * rt d n - d) = 0 := by
  refine sg_Z fun e he => ?_
  have hB : 0 < 2 * d + 3 := by grind
  have hd : 0 < e / (2 * d + 3) := by
    rw [Rat.div_def]
    exact Rat.mul_pos he (Rat.inv_pos.mpr hB)
  have hm : (2 * d + 3) * (e / (2 * d + 3)) = e := by
    rw [Rat.div_def, Rat.mul_comm e, ← Rat.mul_assoc, Rat.mul_inv_cancel _ (by grind), Rat.one_mul]
  obtain ⟨N, hN⟩ := small hd
  obtain ⟨M, hM⟩ := small (show (0 : Rat) < 1 by decide)
  refine ⟨max N M, fun n hn => ?_⟩
  obtain ⟨a1, a2, a3⟩ := rt_nn h n
  obtain ⟨c1, c2⟩ := hN n (by omega)
  obtain ⟨k1, k2⟩ := hM n (by omega)
  have hs : rt d n < d + 1 := of_sq (by grind) (by
    have := Rat.mul_nonneg h h
    grind)
  generalize e / (2 * d + 3) = u at *
  generalize 1 / ((n : Rat) + 1) = i at *
  generalize rt d n = s at *
  have x1 := Rat.mul_pos c1 (show 0 < d + 1 - s by grind)
  have x2 := Rat.mul_pos c1 (show 0 < 1 - i by grind)
  have x3 := Rat.mul_pos hB (show 0 < u - i by grind)
  constructor <;> grind
end RT

namespace RT
open Classical
theorem sg_range {f : Q} (hf : IsC f) : sg f = 1 ∨ sg f = -1 ∨ sg f = 0 := by
  rcases sg_cases hf with ⟨e, _⟩ | ⟨e, _⟩ | ⟨e, _⟩
  · exact .inl e
  · exact .inr (.inl e)
  · exact .inr (.inr e)
theorem sg_sub_same {f g : Q} (hf : IsC f) (hg : IsC g) (h : sg f = -sg g) : sg (fun n => f n - g n) = sg f := by
  have := sg_same hf hg.neg (by rw [sg_neg hg]; exact h)
  rw [show (fun n => f n - g n) = fun n => f n + -g n from cg fun n => by grind]
  exact this
/-- the sign of a sum, by the squares where the signs are against one another -/
theorem sum_sg {f g : Q} (hf : IsC f) (hg : IsC g) : sg (fun n => f n + g n) = if sg f = sg g ∨ sg g = 0 then sg f else if sg f = 0 then sg g else sg f * sg (fun n => f n * f n - g n * g n) := by
  split
  · rename_i h
    rcases h with h | h
    · exact sg_same hf hg h
    · exact sg_addZ hf hg h
  · rename_i h
    split
    · rename_i h0
      rw [show (fun n => f n + g n) = fun n => g n + f n from cg fun n => by grind]
      exact sg_addZ hg hf h0
    · rename_i h0
      have rf := sg_range hf
      have rg := sg_range hg
      have opp : sg f = -sg g := by omega
      have hd := sg_sub_same hf hg opp
      have hm := sg_mul (hf.add hg) (hf.sub hg)
      rw [hd, show (fun n => (f n + g n) * (f n - g n)) = fun n => f n * f n - g n * g n from cg fun n => by grind] at hm
      rw [hm]
      rcases rf with e | e | e
      · rw [e]; omega
      · rw [e]; omega
      · exact absurd e h0
theorem sg_null {f g : Q} (hf : IsC f) (hg : IsC g) (h : sg (fun n => f n - g n) = 0) : sg f = sg g := by
  have := sg_addZ hg (hf.sub hg) h
  rw [← this]
  congr 1
  funext n
  grind
def sgq (q : Rat) : Int := if 0 < q then 1 else if q < 0 then -1 else 0
theorem sg_c (q : Rat) : sg (fun _ => q) = sgq q := sg_const q
theorem sgq_mul (q r : Rat) : sgq (q * r) = sgq q * sgq r := by
  have := sg_mul (IsC.const q) (IsC.const r)
  rw [sg_c, sg_c, sg_c] at this
  exact this
theorem sg_smul (q : Rat) {f : Q} (hf : IsC f) : sg (fun n => q * f n) = sgq q * sg f := by
  have := sg_mul (IsC.const q) hf
  rw [sg_c] at this
  exact this
theorem sg_nn {f : Q} (hf : IsC f) (h : ∀ n, 0 ≤ f n) : 0 ≤ sg f := by
  rcases sg_cases hf with ⟨e, _⟩ | ⟨e, k⟩ | ⟨e, _⟩
  · omega
  · exfalso
    obtain ⟨d, hd, N, hN⟩ := k
    have := hN N (Nat.le_refl _)
    have := h N
    grind
  · omega
theorem rt_nn0 {d : Rat} (h : 0 ≤ d) : 0 ≤ sg (rt d) := sg_nn (rt_C h) fun n => (rt_nn h n).1
theorem sq_C {d : Rat} (h : 0 ≤ d) : IsC fun n => rt d n * rt d n := (rt_C h).mul (rt_C h)
theorem rt_sg {d : Rat} (h : 0 ≤ d) : sg (rt d) = sgq d := by
  have e := sg_null (sq_C h) (IsC.const d) (rt_sq h)
  rw [sg_mul (rt_C h) (rt_C h), sg_c] at e
  have a := sg_range (rt_C h)
  have b := rt_nn0 h
  rcases a with a | a | a
  · rw [a] at e ⊢; omega
  · omega
  · rw [a] at e ⊢; omega
/-- alike squares, none below nought -/
theorem sq_unique {x y : Q} (hx : IsC x) (hy : IsC y) (h1 : 0 ≤ sg x) (h2 : 0 ≤ sg y) (h : sg (fun n => x n * x n - y n * y n) = 0) : sg (fun n => x n - y n) = 0 := by
  have hm := sg_mul (hx.sub hy) (hx.add hy)
  rw [show (fun n => (x n - y n) * (x n + y n)) = fun n => x n * x n - y n * y n from cg fun n => by grind, h] at hm
  have rx := sg_range hx
  have ry := sg_range hy
  rcases Int.mul_eq_zero.mp hm.symm with e | e
  · exact e
  · have hs := sum_sg hx hy
    rw [e] at hs
    have z : sg x = 0 ∧ sg y = 0 := by
      split at hs
      · omega
      · split at hs
        · omega
        · omega
    have := sg_addZ hx hy.neg (by rw [sg_neg hy]; omega)
    rw [show (fun n => x n - y n) = fun n => x n + -y n from cg fun n => by grind, this]
    exact z.1
theorem mul_nn {d e : Rat} (h : 0 ≤ d) (h' : 0 ≤ e) : 0 ≤ d * e := Rat.mul_nonneg h h'
/-- null rows -/
theorem null_add {f g : Q} (hf : IsC f) (hg : IsC g) (h1 : sg f = 0) (h2 : sg g = 0) : sg (fun n => f n + g n) = 0 := by rw [sg_addZ hf hg h2, h1]
theorem null_mul {f g : Q} (hf : IsC f) (hg : IsC g) (h : sg g = 0) : sg (fun n => f n * g n) = 0 := by rw [sg_mul hf hg, h, Int.mul_zero]
theorem rt_mul {d e : Rat} (h : 0 ≤ d) (h' : 0 ≤ e) : sg (fun n => rt d n * rt e n - rt (d * e) n) = 0 := by
  have hc := (rt_C h).mul (rt_C h')
  have hde := rt_C (mul_nn h h')
  refine sq_unique hc hde (by
    rw [sg_mul (rt_C h) (rt_C h')]
    have := rt_nn0 h
    have := rt_nn0 h'
    exact Int.mul_nonneg (by omega) (by omega)) (rt_nn0 (mul_nn h h')) ?_
  have s1 := null_mul (sq_C h') ((sq_C h).sub (IsC.const d)) (rt_sq h)
  have s2 := null_mul (IsC.const d) ((sq_C h').sub (IsC.const e)) (rt_sq h')
  have s3 := rt_sq (mul_nn h h')
  have c1 := (sq_C h').mul ((sq_C h).sub (IsC.const d))
  have c2 := (IsC.const d).mul ((sq_C h').sub (IsC.const e))
  have c3 := (sq_C (mul_nn h h')).sub (IsC.const (d * e))
  have t1 := null_add c1 c2 s1 s2
  have t2 := null_add (c1.add c2) c3.neg t1 (by rw [sg_neg c3, s3]; rfl)
  rw [← t2]
  congr 1
  funext n
  grind
/-! ### the signs as the program reckons them -/
def sor (p q d : Rat) : Int := if sgq p = sgq q * sgq d ∨ sgq q * sgq d = 0 then sgq p else if sgq p = 0 then sgq q * sgq d else sgq p * sgq (p * p - q * q * d)
def sot (q d r e : Rat) : Int := if sgq q * sgq d = sgq r * sgq e ∨ sgq r * sgq e = 0 then sgq q * sgq d else if sgq q * sgq d = 0 then sgq r * sgq e else sgq q * sgq d * sgq (q * q * d - r * r * e)
def sos (p q d r e : Rat) : Int := if sgq p = sot q d r e ∨ sot q d r e = 0 then sgq p else if sgq p = 0 then sot q d r e else sgq p * sor (p * p - (q * q * d + r * r * e)) (-2 * (q * r)) (d * e)
theorem qC (q : Rat) {d : Rat} (h : 0 ≤ d) : IsC fun n => q * rt d n := (IsC.const q).mul (rt_C h)
theorem q_sg (q : Rat) {d : Rat} (h : 0 ≤ d) : sg (fun n => q * rt d n) = sgq q * sgq d := by rw [sg_smul q (rt_C h), rt_sg h]
theorem sor_ok (p q : Rat) {d : Rat} (h : 0 ≤ d) : sor p q d = sg fun n => p + q * rt d n := by
  rw [sum_sg (IsC.const p) (qC q h), q_sg q h, sg_c, sor]
  have e : sg (fun n => p * p - q * rt d n * (q * rt d n)) = sgq (p * p - q * q * d) := by
    rw [← sg_c]
    refine sg_null (((IsC.const p).mul (IsC.const p)).sub ((qC q h).mul (qC q h))) (IsC.const _) ?_
    have := null_mul (IsC.const (-(q * q))) ((sq_C h).sub (IsC.const d)) (rt_sq h)
    rw [← this]
    congr 1
    funext n
    grind
  rw [e]
theorem sot_ok (q r : Rat) {d e : Rat} (h : 0 ≤ d) (h' : 0 ≤ e) : sot q d r e = sg fun n => q * rt d n + r * rt e n := by
  rw [sum_sg (qC q h) (qC r h'), q_sg q h, q_sg r h', sot]
  have ee : sg (fun n => q * rt d n * (q * rt d n) - r * rt e n * (r * rt e n)) = sgq (q * q * d - r * r * e) := by
    rw [← sg_c]
    refine sg_null (((qC q h).mul (qC q h)).sub ((qC r h').mul (qC r h'))) (IsC.const _) ?_
    have a := null_mul (IsC.const (q * q)) ((sq_C h).sub (IsC.const d)) (rt_sq h)
    have b := null_mul (IsC.const (-(r * r))) ((sq_C h').sub (IsC.const e)) (rt_sq h')
    have c := null_add ((IsC.const (q * q)).mul ((sq_C h).sub (IsC.const d))) ((IsC.const (-(r * r))).mul ((sq_C h').sub (IsC.const e))) a b
    rw [← c]
    congr 1
    funext n
    grind
  rw [ee]
theorem sos_ok (p q r : Rat) {d e : Rat} (h : 0 ≤ d) (h' : 0 ≤ e) : sos p q d r e = sg fun n => p + (q * rt d n + r * rt e n) := by
  rw [sum_sg (IsC.const p) ((qC q h).add (qC r h')), ← sot_ok q r h h', sg_c, sos]
  have ee : sor (p * p - (q * q * d + r * r * e)) (-2 * (q * r)) (d * e) = sg fun n => p * p - (q * rt d n + r * rt e n) * (q * rt d n + r * rt e n) := by
    rw [sor_ok _ _ (mul_nn h h')]
    refine sg_null ((IsC.const _).add (qC _ (mul_nn h h'))) (((IsC.const p).mul (IsC.const p)).sub (((qC q h).add (qC r h')).mul ((qC q h).add (qC r h')))) ?_
    have a := null_mul (IsC.const (q * q)) ((sq_C h).sub (IsC.const d)) (rt_sq h)
    have b := null_mul (IsC.const (r * r)) ((sq_C h').sub (IsC.const e)) (rt_sq h')
    have k := null_mul (IsC.const (2 * (q * r))) (((rt_C h).mul (rt_C h')).sub (rt_C (mul_nn h h'))) (rt_mul h h')
    have ca := (IsC.const (q * q)).mul ((sq_C h).sub (IsC.const d))
    have cb := (IsC.const (r * r)).mul ((sq_C h').sub (IsC.const e))
    have ck := (IsC.const (2 * (q * r))).mul (((rt_C h).mul (rt_C h')).sub (rt_C (mul_nn h h')))
    have c := null_add ca cb a b
    have c2 := null_add (ca.add cb) ck c k
    rw [← c2]
    congr 1
    funext n
    grind
  rw [ee]
end RT

namespace ML
open PySem PySem.Spec PyProof.Rows L2 RT
/-! ### root numbers as the program has them -/
theorem sgn_sgq (q : Rat) : sgn q = sgq q := by
  have h1 : 0 < q.num ↔ 0 < q := by
    have a := Rat.num_nonneg (q := -q)
    rw [Rat.neg_num] at a
    grind
  have h2 : q.num < 0 ↔ q < 0 := by
    have a := Rat.num_nonneg (q := q)
    grind
  unfold sgn sgq
  simp only [h1, h2]
  split <;> split <;> first | rfl | grind
theorem sign_ok' (q : Rat) (S : Sto) : Ksign [rq q] S = some (.int (sgq q), S) := by rw [sign_ok, sgn_sgq]
theorem sgq_abs (q : Rat) : (sgq q).natAbs < 2 ^ 1 := by 
  unfold sgq
  split
  · decide
  · split <;> decide
theorem scons_nx9 {b c : SDen} {env env' : En} {S S' : Sto} (h : b env S = some (.nx, env', S')) : sCons b c env S = c env' S' := by rw [x_scons, h]; rfl
theorem scons_rt9 {b c : SDen} {env env' : En} {S S' : Sto} {d : D} (h : b env S = some (.rt d, env', S')) : sCons b c env S = some (.rt d, env', S') := by rw [x_scons, h]; rfl
noncomputable def Ksquare (Ft : Fn) : Fn := mkFn 1 1 (sCons (sRet (eCall Ft (aCons (eVar 0) (aCons (eVar 0) aNil)))) sNil)
theorem square_ok {Ft : Fn} (ht : IsQ2 Ft (· * ·)) (q : Rat) (S : Sto) (h : Sz 4000 q) : Ksquare Ft [rq q] S = some (rq (q * q), S) := by
  have t := ht q q S h h
  refine mk_same [some (rq q)] (env' := [some (rq q)]) ?_
  simp [t]
noncomputable def Ksor (Fs Fq Fm Ft : Fn) : Fn := mkFn 3 5 (sCons (sAsg (eCall Fs (aCons (eVar 0) aNil)) (ML.gName 3)) (sCons (sAsg (eOp gMul (eCall Fs (aCons (eVar 1) aNil)) (eCall Fs (aCons (eVar 2) aNil))) (ML.gName 4)) (sCons (sIf (ML.tOr (asB (eOp cEq (eVar 3) (eVar 4))) (asB (eOp cEq (eVar 4) (eC (.int 0))))) (sCons (sRet (eVar 3)) sNil) sNil) (sCons (sIf (asB (eOp cEq (eVar 3) (eC (.int 0)))) (sCons (sRet (eVar 4)) sNil) sNil) (sCons (sRet (eOp gMul (eVar 3) (eCall Fs (aCons (eCall Fm (aCons (eCall Fq (aCons (eVar 0) aNil)) (aCons (eCall Ft (aCons (eCall Fq (aCons (eVar 1) aNil)) (aCons (eVar 2) aNil))) aNil))) aNil)))) sNil)))))
noncomputable def Ksot (Fs Fq Fm Ft : Fn) : Fn := mkFn 4 6 (sCons (sAsg (eOp gMul (eCall Fs (aCons (eVar 0) aNil)) (eCall Fs (aCons (eVar 1) aNil))) (ML.gName 4)) (sCons (sAsg (eOp gMul (eCall Fs (aCons (eVar 2) aNil)) (eCall Fs (aCons (eVar 3) aNil))) (ML.gName 5)) (sCons (sIf (ML.tOr (asB (eOp cEq (eVar 4) (eVar 5))) (asB (eOp cEq (eVar 5) (eC (.int 0))))) (sCons (sRet (eVar 4)) sNil) sNil) (sCons (sIf (asB (eOp cEq (eVar 4) (eC (.int 0)))) (sCons (sRet (eVar 5)) sNil) sNil) (sCons (sRet (eOp gMul (eVar 4) (eCall Fs (aCons (eCall Fm (aCons (eCall Ft (aCons (eCall Fq (aCons (eVar 0) aNil)) (aCons (eVar 1) aNil))) (aCons (eCall Ft (aCons (eCall Fq (aCons (eVar 2) aNil)) (aCons (eVar 3) aNil))) aNil))) aNil)))) sNil)))))
noncomputable def Ksos (Fs Fq Fm Ft Fp Fr F2 : Fn) : Fn := mkFn 5 9 (sCons (sAsg (eCall Fs (aCons (eVar 0) aNil)) (ML.gName 5)) (sCons (sAsg (eCall F2 (aCons (eVar 1) (aCons (eVar 2) (aCons (eVar 3) (aCons (eVar 4) aNil))))) (ML.gName 6)) (sCons (sIf (ML.tOr (asB (eOp cEq (eVar 5) (eVar 6))) (asB (eOp cEq (eVar 6) (eC (.int 0))))) (sCons (sRet (eVar 5)) sNil) sNil) (sCons (sIf (asB (eOp cEq (eVar 5) (eC (.int 0)))) (sCons (sRet (eVar 6)) sNil) sNil) (sCons (sAsg (eCall Fm (aCons (eCall Fq (aCons (eVar 0) aNil)) (aCons (eCall Fp (aCons (eCall Ft (aCons (eCall Fq (aCons (eVar 1) aNil)) (aCons (eVar 2) aNil))) (aCons (eCall Ft (aCons (eCall Fq (aCons (eVar 3) aNil)) (aCons (eVar 4) aNil))) aNil))) aNil))) (ML.gName 7)) (sCons (sAsg (eCall Ft (aCons (eTup (aCons (eUn gNeg (eC (.int 2))) (aCons (eC (.int 1)) aNil))) (aCons (eCall Ft (aCons (eVar 1) (aCons (eVar 3) aNil))) aNil))) (ML.gName 8)) (sCons (sRet (eOp gMul (eVar 5) (eCall Fr (aCons (eVar 7) (aCons (eVar 8) (aCons (eCall Ft (aCons (eVar 2) (aCons (eVar 4) aNil))) aNil)))))) sNil)))))))
noncomputable def Kcompare (Fm F5 : Fn) : Fn := mkFn 2 8 (sCons (sAsg (eTup (aCons (eVar 0) (aCons (eVar 1) aNil))) (ML.gTup 2 (ML.gCons (ML.gTup 3 (ML.gCons (ML.gName 2) (ML.gCons (ML.gName 3) (ML.gCons (ML.gName 4) ML.gNil)))) (ML.gCons (ML.gTup 3 (ML.gCons (ML.gName 5) (ML.gCons (ML.gName 6) (ML.gCons (ML.gName 7) ML.gNil)))) ML.gNil)))) (sCons (sRet (eCall F5 (aCons (eCall Fm (aCons (eVar 2) (aCons (eVar 5) aNil))) (aCons (eVar 3) (aCons (eVar 4) (aCons (eCall Fm (aCons (eC (.tup [.int 0, .int 1])) (aCons (eVar 6) aNil))) (aCons (eVar 7) aNil))))))) sNil))
section
variable {Fs Fq Fm Ft Fp Fr F2 F5 : Fn} (hs : ∀ q S, Fs [rq q] S = some (.int (sgq q), S)) (hq : ∀ q S, Sz 4000 q → Fq [rq q] S = some (rq (q * q), S)) (hm : IsQ2 Fm (· - ·)) (ht : IsQ2 Ft (· * ·)) (hp : IsQ2 Fp (· + ·))
theorem w11 {i j : Int} (h : i.natAbs < 2 ^ 1) (k : j.natAbs < 2 ^ 1) : wideM i j := wideM_of h k
theorem sgq_prod (q d : Rat) : (sgq q * sgq d).natAbs < 2 ^ 1 := by
  rw [← sgq_mul]; exact sgq_abs _
include hs hq hm ht
theorem sor_data (p q d : Rat) (S : Sto) (zp : Sz 1300 p) (zq : Sz 500 q) (zd : Sz 450 d) : Ksor Fs Fq Fm Ft [rq p, rq q, rq d] S = some (.int (sor p q d), S) := by
  have w1 := w11 (sgq_abs q) (sgq_abs d)
  have w2 := w11 (sgq_abs p) (sgq_abs (p * p - q * q * d))
  have a := hq p S (zp.mono (by decide))
  have b := hq q S (zq.mono (by decide))
  have c := ht (q * q) d S ((sz_mul zq zq).mono (by decide)) (zd.mono (by decide))
  have m := hm (p * p) (q * q * d) S ((sz_mul zp zp).mono (by decide)) ((sz_mul (sz_mul zq zq) zd).mono (by decide))
  unfold sor
  have g1 : ∀ S, gMul (.int (sgq q)) (.int (sgq d)) S = some (.int (sgq q * sgq d), S) := fun S => x_mul w1
  have g2 : ∀ S, gMul (.int (sgq p)) (.int (sgq (p * p - q * q * d))) S = some (.int (sgq p * sgq (p * p - q * q * d)), S) := fun S => x_mul w2
  generalize sgq q * sgq d = t at *
  refine mk_same [some (rq p), some (rq q), some (rq d), none, none] (env' := [some (rq p), some (rq q), some (rq d), some (.int (sgq p)), some (.int t)]) ?_
  by_cases c1 : sgq p = t
  · simp [hs, g1, c1]
  · by_cases c2 : t = 0
    · subst c2
      simp [hs, g1, c1]
    · by_cases c3 : sgq p = 0
      · have c4 : ¬ (0 = t) := fun h => c2 h.symm
        simp [hs, g1, c3, c4, c2]
      · simp [hs, g1, g2, c1, c2, c3, a, b, c, m]
theorem sot_data (q d r e : Rat) (S : Sto) (zq : Sz 300 q) (zd : Sz 300 d) (zr : Sz 300 r) (ze : Sz 300 e) : Ksot Fs Fq Fm Ft [rq q, rq d, rq r, rq e] S = some (.int (sot q d r e), S) := by
  have w1 := w11 (sgq_abs q) (sgq_abs d)
  have w3 := w11 (sgq_abs r) (sgq_abs e)
  have w2 := w11 (sgq_prod q d) (sgq_abs (q * q * d - r * r * e))
  have a := hq q S (zq.mono (by decide))
  have b := hq r S (zr.mono (by decide))
  have c := ht (q * q) d S ((sz_mul zq zq).mono (by decide)) (zd.mono (by decide))
  have c' := ht (r * r) e S ((sz_mul zr zr).mono (by decide)) (ze.mono (by decide))
  have m := hm (q * q * d) (r * r * e) S ((sz_mul (sz_mul zq zq) zd).mono (by decide)) ((sz_mul (sz_mul zr zr) ze).mono (by decide))
  unfold sot
  have g1 : ∀ S, gMul (.int (sgq q)) (.int (sgq d)) S = some (.int (sgq q * sgq d), S) := fun S => x_mul w1
  have g3 : ∀ S, gMul (.int (sgq r)) (.int (sgq e)) S = some (.int (sgq r * sgq e), S) := fun S => x_mul w3
  have g2 : ∀ S, gMul (.int (sgq q * sgq d)) (.int (sgq (q * q * d - r * r * e))) S = some (.int (sgq q * sgq d * sgq (q * q * d - r * r * e)), S) := fun S => x_mul w2
  generalize sgq q * sgq d = t at *
  generalize sgq r * sgq e = u at *
  refine mk_same [some (rq q), some (rq d), some (rq r), some (rq e), none, none] (env' := [some (rq q), some (rq d), some (rq r), some (rq e), some (.int t), some (.int u)]) ?_
  by_cases c1 : t = u
  · simp [hs, g1, g3, c1]
  · by_cases c2 : u = 0
    · subst c2
      simp [hs, g1, g3, c1]
    · by_cases c3 : t = 0
      · have c4 : ¬ (0 = u) := fun h => c2 h.symm
        subst c3
        simp [hs, g1, g3, c4, c2]
      · simp [hs, g1, g3, g2, c1, c2, c3, a, b, c, c', m]
include hp
end
theorem sor_range (p q d : Rat) : (sor p q d).natAbs < 2 ^ 1 := by
  unfold sor
  split
  · exact sgq_abs p
  · split
    · exact sgq_prod q d
    · exact sgq_prod p _
/-- a root number p + q * (root of d) -/
def rn (p q d : Rat) : D := .tup [rq p, rq q, rq d]
/-- its row -/
noncomputable def V (p q d : Rat) : Q := fun n => p + q * rt d n
theorem V_C (p q : Rat) {d : Rat} (h : 0 ≤ d) : IsC (V p q d) := (IsC.const p).add (qC q h)
end ML

namespace ML
open PySem PySem.Spec PyProof.Rows L2 RT
section
variable {Fs Fq Fm Ft Fp Fr F2 F5 : Fn} (hs : ∀ q S, Fs [rq q] S = some (.int (sgq q), S)) (hq : ∀ q S, Sz 4000 q → Fq [rq q] S = some (rq (q * q), S)) (hm : IsQ2 Fm (· - ·)) (ht : IsQ2 Ft (· * ·)) (hp : IsQ2 Fp (· + ·))
include hs hq hm ht hp
theorem sos_dataL (hr : ∀ p q d S, Sz 1300 p → Sz 500 q → Sz 450 d → Fr [rq p, rq q, rq d] S = some (.int (sor p q d), S)) (h2 : ∀ q d r e S, Sz 300 q → Sz 300 d → Sz 300 r → Sz 300 e → F2 [rq q, rq d, rq r, rq e] S = some (.int (sot q d r e), S))
    (p q d r e : Rat) (S : Sto) (zp : Sz 310 p) (zq : Sz 132 q) (zd : Sz 62 d) (zr : Sz 132 r) (ze : Sz 62 e) (sr : ∀ p q d, (sor p q d).natAbs < 2 ^ 1) : Ksos Fs Fq Fm Ft Fp Fr F2 [rq p, rq q, rq d, rq r, rq e] S = some (.int (sos p q d r e), S) := by
  have h6 := h2 q d r e S (zq.mono (by decide)) (zd.mono (by decide)) (zr.mono (by decide)) (ze.mono (by decide))
  have a0 := hq p S (zp.mono (by decide))
  have a := hq q S (zq.mono (by decide))
  have b := hq r S (zr.mono (by decide))
  have c := ht (q * q) d S ((sz_mul zq zq).mono (by decide)) (zd.mono (by decide))
  have c' := ht (r * r) e S ((sz_mul zr zr).mono (by decide)) (ze.mono (by decide))
  have pl := hp (q * q * d) (r * r * e) S ((sz_mul (sz_mul zq zq) zd).mono (by decide)) ((sz_mul (sz_mul zr zr) ze).mono (by decide))
  have zs := sz_add (sz_mul (sz_mul zq zq) zd) (sz_mul (sz_mul zr zr) ze)
  have m := hm (p * p) (q * q * d + r * r * e) S ((sz_mul zp zp).mono (by decide)) (zs.mono (by decide))
  have z1 := sz_sub (sz_mul zp zp) zs
  have qr := ht q r S (zq.mono (by decide)) (zr.mono (by decide))
  have z2 : Sz 2 (-2 : Rat) := ⟨by decide, by decide⟩
  have m2 := ht (-2) (q * r) S (z2.mono (by decide)) ((sz_mul zq zr).mono (by decide))
  have z3 := sz_mul z2 (sz_mul zq zr)
  have de := ht d e S (zd.mono (by decide)) (ze.mono (by decide))
  have z4 := sz_mul zd ze
  have r8 := hr (p * p - (q * q * d + r * r * e)) (-2 * (q * r)) (d * e) S (z1.mono (by decide)) (z3.mono (by decide)) (z4.mono (by decide))
  have e2 : D.tup [.int (-2), .int 1] = rq (-2) := rfl
  have w2 := w11 (sgq_abs p) (sr (p * p - (q * q * d + r * r * e)) (-2 * (q * r)) (d * e))
  unfold sos
  have g2 : ∀ S, gMul (.int (sgq p)) (.int (sor (p * p - (q * q * d + r * r * e)) (-2 * (q * r)) (d * e))) S = some (.int (sgq p * sor (p * p - (q * q * d + r * r * e)) (-2 * (q * r)) (d * e)), S) := fun S => x_mul w2
  generalize sot q d r e = t at *
  generalize sor (p * p - (q * q * d + r * r * e)) (-2 * (q * r)) (d * e) = u at *
  by_cases c1 : sgq p = t
  · refine mk_same [some (rq p), some (rq q), some (rq d), some (rq r), some (rq e), none, none, none, none] (env' := [some (rq p), some (rq q), some (rq d), some (rq r), some (rq e), some (.int (sgq p)), some (.int t), none, none]) ?_
    simp [hs, h6, c1]
  · by_cases c2 : t = 0
    · subst c2
      refine mk_same [some (rq p), some (rq q), some (rq d), some (rq r), some (rq e), none, none, none, none] (env' := [some (rq p), some (rq q), some (rq d), some (rq r), some (rq e), some (.int (sgq p)), some (.int 0), none, none]) ?_
      simp [hs, h6, c1]
    · by_cases c3 : sgq p = 0
      · have c4 : ¬ (0 = t) := fun h => c2 h.symm
        refine mk_same [some (rq p), some (rq q), some (rq d), some (rq r), some (rq e), none, none, none, none] (env' := [some (rq p), some (rq q), some (rq d), some (rq r), some (rq e), some (.int (sgq p)), some (.int t), none, none]) ?_
        simp [hs, h6, c3, c4, c2]
      · refine mk_same [some (rq p), some (rq q), some (rq d), some (rq r), some (rq e), none, none, none, none] (env' := [some (rq p), some (rq q), some (rq d), some (rq r), some (rq e), some (.int (sgq p)), some (.int t), some (rq (p * p - (q * q * d + r * r * e))), some (rq (-2 * (q * r)))]) ?_
        rw [if_neg (by omega), if_neg c3]
        refine (scons_nx9 (env' := [some (rq p), some (rq q), some (rq d), some (rq r), some (rq e), some (.int (sgq p)), none, none, none]) (S' := S) (by simp [hs])).trans ?_
        refine (scons_nx9 (env' := [some (rq p), some (rq q), some (rq d), some (rq r), some (rq e), some (.int (sgq p)), some (.int t), none, none]) (S' := S) (by simp [h6])).trans ?_
        refine (scons_nx9 (env' := [some (rq p), some (rq q), some (rq d), some (rq r), some (rq e), some (.int (sgq p)), some (.int t), none, none]) (S' := S) (by simp [c1, c2])).trans ?_
        refine (scons_nx9 (env' := [some (rq p), some (rq q), some (rq d), some (rq r), some (rq e), some (.int (sgq p)), some (.int t), none, none]) (S' := S) (by simp [c3])).trans ?_
        refine (scons_nx9 (env' := [some (rq p), some (rq q), some (rq d), some (rq r), some (rq e), some (.int (sgq p)), some (.int t), some (rq (p * p - (q * q * d + r * r * e))), none]) (S' := S) (by simp [a0, a, b, c, c', pl, m])).trans ?_
        refine (scons_nx9 (env' := [some (rq p), some (rq q), some (rq d), some (rq r), some (rq e), some (.int (sgq p)), some (.int t), some (rq (p * p - (q * q * d + r * r * e))), some (rq (-2 * (q * r)))]) (S' := S) (by simp [e2, qr, m2])).trans ?_
        refine scons_rt9 ?_
        simp [de, r8, g2]
end
/-- what is behind compare -/
def IsCmpL (F : Fn) : Prop := ∀ (p q d s r e : Rat) (S : Sto), 0 ≤ d → 0 ≤ e → Sz 150 p → Sz 130 q → Sz 60 d → Sz 150 s → Sz 130 r → Sz 60 e → F [rn p q d, rn s r e] S = some (.int (sg fun n => V p q d n - V s r e n), S)
theorem compare_okL {Fg : Fn} (hg : IsFrac Fg) : IsCmpL (Kcompare (Kminus Fg) (Ksos Ksign (Ksquare (Ktimes Fg)) (Kminus Fg) (Ktimes Fg) (Kplus Fg) (Ksor Ksign (Ksquare (Ktimes Fg)) (Kminus Fg) (Ktimes Fg)) (Ksot Ksign (Ksquare (Ktimes Fg)) (Kminus Fg) (Ktimes Fg)))) := by
  intro p q d s r e S hd he zp zq zd zs zr ze
  have hm := minus_ok hg
  have ht := times_ok hg
  have hp := plus_ok hg
  have hq : ∀ q S, Sz 4000 q → Ksquare (Ktimes Fg) [rq q] S = some (rq (q * q), S) := fun q S h => square_ok ht q S h
  have m1 := hm p s S (zp.mono (by decide)) (zs.mono (by decide))
  have m2 : Kminus Fg [.tup [.int 0, .int 1], rq r] S = some (rq (0 - r), S) := hm 0 r S sz_0 (zr.mono (by decide))
  have z0 : Sz 132 (0 - r) := (sz_sub (sz_0 (k := 1)) zr).mono (by decide)
  have k := sos_dataL (Fs := Ksign) sign_ok' hq hm ht hp (Fr := Ksor Ksign (Ksquare (Ktimes Fg)) (Kminus Fg) (Ktimes Fg)) (F2 := Ksot Ksign (Ksquare (Ktimes Fg)) (Kminus Fg) (Ktimes Fg))
    (fun p q d S a b c => sor_data sign_ok' hq hm ht p q d S a b c) (fun q d r e S a b c f => sot_data sign_ok' hq hm ht q d r e S a b c f)
    (p - s) q d (0 - r) e S ((sz_sub zp zs).mono (by decide)) (zq.mono (by decide)) (zd.mono (by decide)) z0 (ze.mono (by decide)) sor_range
  rw [sos_ok _ _ _ hd he] at k
  have ev : (fun n => p - s + (q * rt d n + (0 - r) * rt e n)) = fun n => V p q d n - V s r e n := by
    funext n
    unfold V
    grind
  rw [ev] at k
  refine mk_same [some (rn p q d), some (rn s r e), none, none, none, none, none, none] (env' := [some (rn p q d), some (rn s r e), some (rq p), some (rq q), some (rq d), some (rq s), some (rq r), some (rq e)]) ?_
  refine (scons_nx9 (env' := [some (rn p q d), some (rn s r e), some (rq p), some (rq q), some (rq d), some (rq s), some (rq r), some (rq e)]) (S' := S) (by simp [rn])).trans ?_
  refine scons_rt9 ?_
  simp [m1, m2, k]
end ML

namespace RT
/-! ### roots kept apart -/
theorem nn_add {f g : Q} (hf : IsC f) (hg : IsC g) (h : 0 ≤ sg f) (k : 0 ≤ sg g) : 0 ≤ sg fun n => f n + g n := by
  rcases sg_cases hg with ⟨e, p⟩ | ⟨e, -⟩ | ⟨e, -⟩
  · rcases sg_cases hf with ⟨e', p'⟩ | ⟨e', -⟩ | ⟨e', -⟩
    · rw [sg_same hf hg (e'.trans e.symm), e']; decide
    · omega
    · have := sg_addZ hg hf e'
      rw [show (fun n => f n + g n) = fun n => g n + f n from funext fun n => by grind, this, e]
      decide
  · omega
  · rw [sg_addZ hf hg e]; exact h
theorem nn_mul {f g : Q} (hf : IsC f) (hg : IsC g) (h : 0 ≤ sg f) (k : 0 ≤ sg g) : 0 ≤ sg fun n => f n * g n := by
  rw [sg_mul hf hg]
  exact Int.mul_nonneg h k
theorem null_sub {f g : Q} (hf : IsC f) (hg : IsC g) (h1 : sg f = 0) (h2 : sg g = 0) : sg (fun n => f n - g n) = 0 := by
  have := null_add hf hg.neg h1 (by rw [sg_neg hg, h2]; rfl)
  rw [← this]
  congr 1
  funext n
  grind
theorem sgq_nn {q : Rat} (h : 0 ≤ q) : 0 ≤ sgq q := by
  unfold sgq
  split
  · decide
  · split
    · grind
    · decide
theorem nn_const {q : Rat} (h : 0 ≤ q) : 0 ≤ sg fun _ => q := by rw [sg_c]; exact sgq_nn h
theorem const_nn {q : Rat} (h : 0 ≤ sg fun _ => q) : 0 ≤ q := by
  rw [sg_c] at h
  unfold sgq at h
  refine Rat.not_lt.mp fun c => ?_
  rw [if_neg (by grind), if_pos c] at h
  exact absurd h (by decide)
theorem sq_nn (a : Rat) : 0 ≤ a * a := by
  rcases Rat.le_total (a := 0) (b := a) with h | h
  · exact Rat.mul_nonneg h h
  · have := Rat.mul_nonneg (a := -a) (b := -a) (by grind) (by grind)
    grind
/-- so far from nought at least -/
def Ge (f : Q) (e : Rat) : Prop := 0 ≤ sg fun n => f n * f n - e * e
/-- so far from nought at most -/
def Le (f : Q) (b : Rat) : Prop := ∀ n, -b ≤ f n ∧ f n ≤ b
theorem Ge.of {f h : Q} (hf : IsC f) (hh : IsC h) (e : sg (fun n => f n - h n) = 0) {t : Rat} (g : Ge h t) : Ge f t := by
  have c1 := hf.add hh
  have n1 := null_mul c1 (hf.sub hh) e
  have n2 := nn_add (c1.mul (hf.sub hh)) ((hh.mul hh).sub (IsC.const (t * t))) (by rw [n1]; exact Int.le_refl _) g
  unfold Ge
  rw [show (fun n => f n * f n - t * t) = fun n => (f n + h n) * (f n - h n) + (h n * h n - t * t) from funext fun n => by grind]
  exact n2
theorem Ge.mono {f : Q} (hf : IsC f) {t s : Rat} (h0 : 0 ≤ s) (h1 : s ≤ t) (g : Ge f t) : Ge f s := by
  have a := Rat.mul_nonneg (a := t - s) (b := t + s) (by grind) (by grind)
  have := nn_add ((hf.mul hf).sub (IsC.const (t * t))) (IsC.const (t * t - s * s)) g (nn_const (by grind))
  unfold Ge
  rw [show (fun n => f n * f n - s * s) = fun n => (f n * f n - t * t) + (t * t - s * s) from funext fun n => by grind]
  exact this
theorem ge_const {c t : Rat} (h : t ≤ c ∨ t ≤ -c) (h0 : 0 ≤ t) : Ge (fun _ => c) t := by
  unfold Ge
  refine nn_const ?_
  rcases h with h | h
  · have := Rat.mul_nonneg (a := c - t) (b := c + t) (by grind) (by grind)
    grind
  · have := Rat.mul_nonneg (a := -c - t) (b := -c + t) (by grind) (by grind)
    grind
/-- a factor of what is far, the other one near -/
theorem Ge.fac {f g h : Q} (hf : IsC f) (hg : IsC g) (hh : IsC h) (e : sg (fun n => f n * g n - h n) = 0) {t b : Rat} (k : Ge h t) (l : Le g b) (hb : 0 < b) (ht : 0 ≤ t) : Ge f (t / b) := by
  have k2 : Ge (fun n => f n * g n) t := Ge.of (hf.mul hg) hh e k
  have n1 : 0 ≤ sg fun n => f n * f n * (b * b - g n * g n) := by
    refine sg_nn ((hf.mul hf).mul ((IsC.const (b * b)).sub (hg.mul hg))) fun n => ?_
    obtain ⟨a1, a2⟩ := l n
    have := Rat.mul_nonneg (a := b - g n) (b := b + g n) (by grind) (by grind)
    exact Rat.mul_nonneg (sq_nn _) (by grind)
  have c1 := (hf.mul hf).mul ((IsC.const (b * b)).sub (hg.mul hg))
  have c2 := ((hf.mul hg).mul (hf.mul hg)).sub (IsC.const (t * t))
  have n2 := nn_add c1 c2 n1 k2
  have bi : b * b⁻¹ = 1 := Rat.mul_inv_cancel _ (by grind)
  have n3 := nn_mul (IsC.const (b⁻¹ * b⁻¹)) (c1.add c2) (nn_const (sq_nn _)) n2
  unfold Ge
  rw [show (fun n => f n * f n - t / b * (t / b)) = fun n => b⁻¹ * b⁻¹ * (f n * f n * (b * b - g n * g n) + (f n * g n * (f n * g n) - t * t)) from funext fun n => by
    rw [Rat.div_def]
    generalize b⁻¹ = y at *
    have : y * y * (b * b) = 1 := by grind
    grind]
  exact n3
theorem rt_le {A : Rat} (h : 0 ≤ A) (n : Nat) : rt A n ≤ 1 + A := by
  obtain ⟨h1, h2, -⟩ := rt_nn h n
  refine Rat.not_lt.mp fun c => ?_
  have := Rat.mul_pos (a := rt A n - (1 + A)) (b := rt A n + (1 + A)) (by grind) (by grind)
  have := Rat.mul_nonneg h h
  grind
/-- at nought just where nought, of a sum of constants and one root -/
theorem one_root {a b A : Rat} (hA : 0 ≤ A) (h : sg (fun n => a + b * rt A n) = 0) : a * a = b * b * A := by
  have cr := rt_C hA
  have c1 : IsC fun n => a + b * rt A n := (IsC.const a).add (qC b hA)
  have c2 : IsC fun n => a - b * rt A n := (IsC.const a).sub (qC b hA)
  have n1 := null_mul c2 c1 h
  have n2 := null_mul (IsC.const (b * b)) ((cr.mul cr).sub (IsC.const A)) (rt_sq hA)
  have n3 := null_add (c2.mul c1) ((IsC.const (b * b)).mul ((cr.mul cr).sub (IsC.const A))) n1 n2
  rw [show (fun n => (a - b * rt A n) * (a + b * rt A n) + b * b * (rt A n * rt A n - A)) = fun _ => a * a - b * b * A from funext fun n => by grind, sg_c] at n3
  have h1 : ¬ 0 < a * a - b * b * A := fun c => by unfold sgq at n3; rw [if_pos c] at n3; exact absurd n3 (by decide)
  have h2 : ¬ a * a - b * b * A < 0 := fun c => by unfold sgq at n3; rw [if_neg h1, if_pos c] at n3; exact absurd n3 (by decide)
  grind
theorem far_int {q : Rat} {E : Nat} (hE : 0 < E) (h : ∃ z : Int, q * E = z) (h0 : q ≠ 0) : 1 / (E : Rat) ≤ q ∨ 1 / (E : Rat) ≤ -q := by
  obtain ⟨z, hz⟩ := h
  have e0 : (0 : Rat) < E := by exact_mod_cast hE
  have ei : (E : Rat) * (E : Rat)⁻¹ = 1 := Rat.mul_inv_cancel _ (by grind)
  have ip : 0 < (E : Rat)⁻¹ := Rat.inv_pos.mpr e0
  rw [Rat.div_def, Rat.one_mul]
  have z0 : z ≠ 0 := fun c => by
    rw [c] at hz
    have : q * E * (E : Rat)⁻¹ = 0 := by rw [hz]; exact Rat.zero_mul _
    grind
  have qe : q = z * (E : Rat)⁻¹ := by rw [← hz]; grind
  rcases (show 1 ≤ z ∨ z ≤ -1 by omega) with h | h
  · left
    have a : ((1 : Int) : Rat) ≤ (z : Rat) := Rat.intCast_le_intCast.mpr h
    have := Rat.mul_nonneg (a := (z : Rat) - 1) (b := (E : Rat)⁻¹) (by rw [show ((1 : Int) : Rat) = 1 from rfl] at a; grind) (by grind)
    grind
  · right
    have a : (z : Rat) ≤ ((-1 : Int) : Rat) := Rat.intCast_le_intCast.mpr h
    have := Rat.mul_nonneg (a := -(z : Rat) - 1) (b := (E : Rat)⁻¹) (by rw [show ((-1 : Int) : Rat) = -1 from rfl] at a; grind) (by grind)
    grind
theorem div_le {t b : Rat} (ht : 0 ≤ t) (hb : 1 ≤ b) : t / b ≤ t := by
  have bi : b * b⁻¹ = 1 := Rat.mul_inv_cancel _ (by grind)
  have ip : 0 < b⁻¹ := Rat.inv_pos.mpr (by grind)
  rw [Rat.div_def]
  have := Rat.mul_nonneg (a := t) (b := 1 - b⁻¹) ht (by
    have := Rat.mul_nonneg (a := b - 1) (b := b⁻¹) (by grind) (by grind)
    grind)
  grind
theorem div_mono {t s b : Rat} (h : s ≤ t) (hb : 0 < b) : s / b ≤ t / b := by
  have ip : 0 < b⁻¹ := Rat.inv_pos.mpr hb
  rw [Rat.div_def, Rat.div_def]
  have := Rat.mul_nonneg (a := t - s) (b := b⁻¹) (by grind) (by grind)
  grind
theorem div_nn {t b : Rat} (ht : 0 ≤ t) (hb : 0 < b) : 0 ≤ t / b := by
  have ip : 0 < b⁻¹ := Rat.inv_pos.mpr hb
  rw [Rat.div_def]
  exact Rat.mul_nonneg ht (by grind)
def Unit3 (v : Rat) : Prop := v = 1 ∨ v = -1 ∨ v = 0
theorem part_le {v x M : Rat} (hv : Unit3 v) (h0 : 0 ≤ x) (h1 : x ≤ M) : -M ≤ v * x ∧ v * x ≤ M := by
  rcases hv with rfl | rfl | rfl <;> constructor <;> grind
theorem sep {P A B M v w : Rat} {E : Nat} (hE : 0 < E) (hv : Unit3 v) (hw : Unit3 w) (A0 : 0 ≤ A) (B0 : 0 ≤ B) (M1 : 1 ≤ M) (AM : A ≤ M) (BM : B ≤ M) (PM : -M ≤ P ∧ P ≤ M)
    (iP : ∃ z : Int, P * E = z) (iA : ∃ z : Int, A * (E * E) = z) (iB : ∃ z : Int, B * (E * E) = z) (nz : sg (fun n => P + (v * rt A n - w * rt B n)) ≠ 0) :
    Ge (fun n => P + (v * rt A n - w * rt B n)) (1 / (E : Rat) * (1 / (E : Rat)) * (1 / (E : Rat)) * (1 / (E : Rat)) / (11 * M * M) / (5 * M)) := by
  have cx := rt_C A0
  have cy := rt_C B0
  have cvx := qC v A0
  have cwy := qC w B0
  have cR := cvx.sub cwy
  have cW : IsC fun n => P + (v * rt A n - w * rt B n) := (IsC.const P).add cR
  have cW' : IsC fun n => P - (v * rt A n - w * rt B n) := (IsC.const P).sub cR
  have vv : v * v = 1 ∨ v * v = 0 := by rcases hv with rfl | rfl | rfl <;> grind
  have ww : w * w = 1 ∨ w * w = 0 := by rcases hw with rfl | rfl | rfl <;> grind
  obtain ⟨c, hc⟩ : ∃ c, c = P * P - v * v * A - w * w * B := ⟨_, rfl⟩
  have cm : IsC fun n => 2 * v * w * (rt A n * rt B n) := (IsC.const (2 * v * w)).mul (cx.mul cy)
  have ch : IsC fun n => c + 2 * v * w * (rt A n * rt B n) := (IsC.const c).add cm
  have ch' : IsC fun n => c - 2 * v * w * (rt A n * rt B n) := (IsC.const c).sub cm
  have f1 : sg (fun n => (P + (v * rt A n - w * rt B n)) * (P - (v * rt A n - w * rt B n)) - (c + 2 * v * w * (rt A n * rt B n))) = 0 := by
    have a1 := null_mul (IsC.const (-(v * v))) ((cx.mul cx).sub (IsC.const A)) (rt_sq A0)
    have a2 := null_mul (IsC.const (-(w * w))) ((cy.mul cy).sub (IsC.const B)) (rt_sq B0)
    have := null_add ((IsC.const (-(v * v))).mul ((cx.mul cx).sub (IsC.const A))) ((IsC.const (-(w * w))).mul ((cy.mul cy).sub (IsC.const B))) a1 a2
    rw [← this]
    congr 1
    funext n
    rw [hc]
    grind
  obtain ⟨N, hN⟩ : ∃ N, N = c * c - 4 * (v * v) * (w * w) * (A * B) := ⟨_, rfl⟩
  have f2 : sg (fun n => (c + 2 * v * w * (rt A n * rt B n)) * (c - 2 * v * w * (rt A n * rt B n)) - N) = 0 := by
    have k1 := (IsC.const (-4 * (v * v) * (w * w))).mul (cx.mul cx)
    have k2 := IsC.const (-4 * (v * v) * (w * w) * B)
    have a1 := null_mul k1 ((cy.mul cy).sub (IsC.const B)) (rt_sq B0)
    have a2 := null_mul k2 ((cx.mul cx).sub (IsC.const A)) (rt_sq A0)
    have := null_add (k1.mul ((cy.mul cy).sub (IsC.const B))) (k2.mul ((cx.mul cx).sub (IsC.const A))) a1 a2
    rw [← this]
    congr 1
    funext n
    rw [hN]
    grind
  have MM : M ≤ M * M := by
    have := Rat.mul_nonneg (a := M - 1) (b := M) (by grind) (by grind)
    grind
  have leW : Le (fun n => P - (v * rt A n - w * rt B n)) (5 * M) := fun n => by
    have a1 := part_le hv (rt_nn A0 n).1 (Rat.le_trans (rt_le A0 n) (show 1 + A ≤ 2 * M by grind))
    have a2 := part_le hw (rt_nn B0 n).1 (Rat.le_trans (rt_le B0 n) (show 1 + B ≤ 2 * M by grind))
    constructor <;> grind
  have PP : P * P ≤ M * M := by
    have := Rat.mul_nonneg (a := M - P) (b := M + P) (by grind) (by grind)
    grind
  have PPn := sq_nn P
  have cb : -(3 * (M * M)) ≤ c ∧ c ≤ 3 * (M * M) := by
    rw [hc]
    rcases vv with e | e <;> rcases ww with e' | e' <;> rw [e, e'] <;> constructor <;> grind
  have uvw : Unit3 (v * w) := by
    unfold Unit3
    rcases hv with rfl | rfl | rfl <;> rcases hw with rfl | rfl | rfl <;> grind
  have leH : Le (fun n => c - 2 * v * w * (rt A n * rt B n)) (11 * M * M) := fun n => by
    have x0 := (rt_nn A0 n).1
    have y0 := (rt_nn B0 n).1
    have x1 := Rat.le_trans (rt_le A0 n) (show 1 + A ≤ 2 * M by grind)
    have y1 := Rat.le_trans (rt_le B0 n) (show 1 + B ≤ 2 * M by grind)
    have p0 := Rat.mul_nonneg x0 y0
    have p1 : rt A n * rt B n ≤ 4 * (M * M) := by
      have q1 := Rat.mul_nonneg (a := 2 * M - rt A n) (b := rt B n) (by grind) y0
      have q2 := Rat.mul_nonneg (a := 2 * M) (b := 2 * M - rt B n) (by grind) (by grind)
      grind
    have := part_le uvw p0 p1
    constructor <;> grind
  have e0 : (0 : Rat) < E := by exact_mod_cast hE
  have e1 : (1 : Rat) ≤ E := by exact_mod_cast hE
  have ei : (E : Rat) * (E : Rat)⁻¹ = 1 := Rat.mul_inv_cancel _ (by grind)
  have ip : 0 < (E : Rat)⁻¹ := Rat.inv_pos.mpr e0
  obtain ⟨r, hr⟩ : ∃ r, r = 1 / (E : Rat) := ⟨_, rfl⟩
  have r0 : 0 < r := by rw [hr, Rat.div_def]; grind
  have r1 : r ≤ 1 := by
    have := Rat.mul_nonneg (a := (E : Rat) - 1) (b := (E : Rat)⁻¹) (by grind) (by grind)
    rw [hr, Rat.div_def]
    grind
  have rr : r * r ≤ r := by
    have := Rat.mul_nonneg (a := r) (b := 1 - r) (by grind) (by grind)
    grind
  have rrn := sq_nn r
  have r3 : r * r * r * r ≤ r * r := by
    have := Rat.mul_nonneg (a := r * r) (b := 1 - r * r) rrn (by grind)
    grind
  have r3n : 0 ≤ r * r * r * r := by
    have := sq_nn (r * r)
    grind
  rw [← hr]
  have m5 : (1 : Rat) ≤ 5 * M := by grind
  have m11 : (1 : Rat) ≤ 11 * M * M := by grind
  have tiny : r * r * r * r / (11 * M * M) ≤ r * r := Rat.le_trans (div_le r3n m11) r3
  have tn : 0 ≤ r * r * r * r / (11 * M * M) := div_nn r3n (by grind)
  -- whole numbers
  obtain ⟨zp, hzp⟩ := iP
  obtain ⟨za, hza⟩ := iA
  obtain ⟨zb, hzb⟩ := iB
  have vz : ∃ k : Int, v * v = k := by
    rcases vv with e | e
    · exact ⟨1, e⟩
    · exact ⟨0, e⟩
  have wz : ∃ k : Int, w * w = k := by
    rcases ww with e | e
    · exact ⟨1, e⟩
    · exact ⟨0, e⟩
  obtain ⟨kv, hkv⟩ := vz
  obtain ⟨kw, hkw⟩ := wz
  have ic : c * ((E * E : Nat) : Rat) = ((zp * zp - kv * za - kw * zb : Int) : Rat) := by
    rw [hc]
    push_cast
    rw [← hzp, ← hza, ← hzb, ← hkv, ← hkw]
    grind
  have iN : N * ((E * E * (E * E) : Nat) : Rat) = (((zp * zp - kv * za - kw * zb) * (zp * zp - kv * za - kw * zb) - 4 * kv * kw * (za * zb) : Int) : Rat) := by
    rw [hN]
    push_cast at ic ⊢
    rw [← ic, ← hza, ← hzb, ← hkv, ← hkw]
    grind
  have rE2 : 1 / ((E * E : Nat) : Rat) = r * r := by
    rw [hr]
    push_cast
    rw [Rat.div_def, Rat.div_def, Rat.inv_mul_rev]
    grind
  have rE4 : 1 / ((E * E * (E * E) : Nat) : Rat) = r * r * r * r := by
    rw [hr]
    push_cast
    rw [Rat.div_def, Rat.div_def, Rat.inv_mul_rev, Rat.inv_mul_rev]
    grind
  have eE2 : 0 < E * E := Nat.mul_pos hE hE
  by_cases hN0 : N = 0
  · rw [hN0] at f2
    have f3 : sg (fun n => c + 2 * v * w * (rt A n * rt B n)) * sg (fun n => c - 2 * v * w * (rt A n * rt B n)) = 0 := by
      rw [← sg_mul ch ch', ← f2]
      congr 1
      funext n
      grind
    by_cases h0 : sg (fun n => c + 2 * v * w * (rt A n * rt B n)) = 0
    · have f4 : sg (fun n => P + (v * rt A n - w * rt B n)) * sg (fun n => P - (v * rt A n - w * rt B n)) = 0 := by
        rw [← sg_mul cW cW', sg_null (cW.mul cW') ch f1, h0]
      have f5 : sg (fun n => P - (v * rt A n - w * rt B n)) = 0 := by
        rcases Int.mul_eq_zero.mp f4 with h | h
        · exact absurd h nz
        · exact h
      have f6 : sg (fun n => (P + (v * rt A n - w * rt B n)) - 2 * P) = 0 := by
        have := sg_neg cW'
        rw [f5] at this
        rw [show (fun n => (P + (v * rt A n - w * rt B n)) - 2 * P) = fun n => -(P - (v * rt A n - w * rt B n)) from funext fun n => by grind, this]
        rfl
      have P0 : P ≠ 0 := fun e => nz (by
        rw [sg_null cW (IsC.const _) f6, e, sg_c]
        unfold sgq
        simp)
      refine Ge.mono cW (div_nn tn (by grind)) ?_ (Ge.of cW (IsC.const (2 * P)) f6 (ge_const (t := r) ?_ (by grind)))
      · exact Rat.le_trans (div_le tn m5) (by grind)
      · rw [hr]
        rcases far_int hE ⟨zp, hzp⟩ P0 with h | h
        · left; grind
        · right; grind
    · have h1 : sg (fun n => c - 2 * v * w * (rt A n * rt B n)) = 0 := by
        rcases Int.mul_eq_zero.mp f3 with h | h
        · exact absurd h h0
        · exact h
      have f6 : sg (fun n => (c + 2 * v * w * (rt A n * rt B n)) - 2 * c) = 0 := by
        have := sg_neg ch'
        rw [h1] at this
        rw [show (fun n => (c + 2 * v * w * (rt A n * rt B n)) - 2 * c) = fun n => -(c - 2 * v * w * (rt A n * rt B n)) from funext fun n => by grind, this]
        rfl
      have c0 : c ≠ 0 := fun e => h0 (by
        rw [sg_null ch (IsC.const _) f6, e, sg_c]
        unfold sgq
        simp)
      have gh : Ge (fun n => c + 2 * v * w * (rt A n * rt B n)) (r * r) := Ge.of ch (IsC.const (2 * c)) f6 (ge_const (by
        rcases far_int eE2 ⟨_, ic⟩ c0 with h | h
        · left; rw [rE2] at h; grind
        · right; rw [rE2] at h; grind) rrn)
      exact Ge.mono cW (div_nn tn (by grind)) (div_mono tiny (by grind)) (Ge.fac cW cW' ch f1 gh leW (by grind) rrn)
  · have gN : Ge (fun _ => N) (r * r * r * r) := ge_const (by
      rcases far_int (Nat.mul_pos eE2 eE2) ⟨_, iN⟩ hN0 with h | h
      · left; rw [rE4] at h; exact h
      · right; rw [rE4] at h; exact h) r3n
    have gh := Ge.fac ch ch' (IsC.const N) f2 gN leH (by grind) r3n
    exact Ge.fac cW cW' ch f1 gh leW (by grind) tn
/-! ### forms of root numbers -/
def Plain (v A : Rat) : Prop := (v = 0 ∧ A = 0) ∨ ((v = 1 ∨ v = -1) ∧ 0 < A ∧ ∀ t : Rat, A ≠ t * t)
theorem c_null {q : Rat} (h : sg (fun _ => q) = 0) : q = 0 := by
  rw [sg_c] at h
  unfold sgq at h
  have h1 : ¬ 0 < q := fun c => by rw [if_pos c] at h; exact absurd h (by decide)
  have h2 : ¬ q < 0 := fun c => by rw [if_neg h1, if_pos c] at h; exact absurd h (by decide)
  grind
theorem form_unique {p s A B v w : Rat} (hv : Plain v A) (hw : Plain w B) (h : sg (fun n => (p - s) + (v * rt A n - w * rt B n)) = 0) : p = s ∧ v = w ∧ A = B := by
  rcases hv with ⟨rfl, rfl⟩ | ⟨hv, A0, hA⟩ <;> rcases hw with ⟨rfl, rfl⟩ | ⟨hw, B0, hB⟩
  · rw [show (fun n => (p - s) + ((0 : Rat) * rt 0 n - 0 * rt 0 n)) = fun _ => p - s from funext fun n => by grind] at h
    exact ⟨by have := c_null h; grind, rfl, rfl⟩
  · rw [show (fun n => (p - s) + ((0 : Rat) * rt 0 n - w * rt B n)) = fun n => (p - s) + (-w) * rt B n from funext fun n => by grind] at h
    have := one_root (by grind) h
    exact absurd (show B = (p - s) * (p - s) by rcases hw with rfl | rfl <;> grind) (hB _)
  · rw [show (fun n => (p - s) + (v * rt A n - (0 : Rat) * rt 0 n)) = fun n => (p - s) + v * rt A n from funext fun n => by grind] at h
    have := one_root (by grind) h
    exact absurd (show A = (p - s) * (p - s) by rcases hv with rfl | rfl <;> grind) (hA _)
  · have A1 : 0 ≤ A := by grind
    have B1 : 0 ≤ B := by grind
    have cx := rt_C A1
    have cy := rt_C B1
    have vv : v * v = 1 := by rcases hv with rfl | rfl <;> grind
    have ww : w * w = 1 := by rcases hw with rfl | rfl <;> grind
    have cW : IsC fun n => (p - s) + (v * rt A n - w * rt B n) := (IsC.const _).add ((qC v A1).sub (qC w B1))
    have cX : IsC fun n => (p - s) + (v * rt A n + w * rt B n) := (IsC.const _).add ((qC v A1).add (qC w B1))
    have n1 := null_mul cX cW h
    have n2 := null_mul (IsC.const 1) ((cy.mul cy).sub (IsC.const B)) (rt_sq B1)
    have n3 := null_mul (IsC.const (-1)) ((cx.mul cx).sub (IsC.const A)) (rt_sq A1)
    have n4 := null_add (cX.mul cW) (((IsC.const 1).mul ((cy.mul cy).sub (IsC.const B))).add ((IsC.const (-1)).mul ((cx.mul cx).sub (IsC.const A)))) n1 (null_add ((IsC.const 1).mul ((cy.mul cy).sub (IsC.const B))) ((IsC.const (-1)).mul ((cx.mul cx).sub (IsC.const A))) n2 n3)
    have e : (fun n => ((p - s) + (v * rt A n + w * rt B n)) * ((p - s) + (v * rt A n - w * rt B n)) + (1 * (rt B n * rt B n - B) + -1 * (rt A n * rt A n - A))) = fun n => ((p - s) * (p - s) + A - B) + (2 * (p - s) * v) * rt A n := funext fun n => by
      have : ((p - s) + (v * rt A n + w * rt B n)) * ((p - s) + (v * rt A n - w * rt B n)) = (p - s) * (p - s) + 2 * (p - s) * v * rt A n + v * v * (rt A n * rt A n) - w * w * (rt B n * rt B n) := by grind
      rw [this, vv, ww]
      grind
    rw [e] at n4
    have r1 := one_root A1 n4
    have P0 : p - s = 0 := by
      refine Classical.byContradiction fun c => ?_
      have di : (2 * (p - s)) * (2 * (p - s))⁻¹ = 1 := Rat.mul_inv_cancel _ (by grind)
      refine hA (((p - s) * (p - s) + A - B) * (2 * (p - s))⁻¹) ?_
      generalize (2 * (p - s))⁻¹ = y at *
      generalize (p - s) * (p - s) + A - B = a at *
      have : a * y * (a * y) = (2 * (p - s) * v * (2 * (p - s) * v) * A) * (y * y) := by rw [← r1]; grind
      rw [this]
      have : 2 * (p - s) * v * (2 * (p - s) * v) * A * (y * y) = (v * v) * ((2 * (p - s) * y) * (2 * (p - s) * y)) * A := by grind
      rw [this, vv, di]
      grind
    have ab : A = B := by
      rw [P0] at r1
      have : (0 * 0 + A - B) * (0 * 0 + A - B) = 0 := by rw [r1]; grind
      have z : (0 : Rat) * 0 + A - B = 0 := by
        rcases Rat.mul_eq_zero.mp this with h | h <;> exact h
      grind
    subst ab
    rw [P0, show (fun n => (0 : Rat) + (v * rt A n - w * rt A n)) = fun n => 0 + (v - w) * rt A n from funext fun n => by grind] at h
    have r2 := one_root A1 h
    refine ⟨by grind, ?_, rfl⟩
    rcases hv with rfl | rfl <;> rcases hw with rfl | rfl <;> grind
theorem pos_add {f g : Q} (hf : IsC f) (hg : IsC g) (h : sg f = 1) (k : 0 ≤ sg g) : sg (fun n => f n + g n) = 1 := by
  rcases sg_range hg with e | e | e
  · rw [sg_same hf hg (h.trans e.symm), h]
  · omega
  · rw [sg_addZ hf hg e, h]
theorem nn_of {f : Q} (hf : IsC f) (h : sg (fun n => -f n) ≠ 1) : 0 ≤ sg f := by
  rw [sg_neg hf] at h
  rcases sg_range hf with e | e | e <;> omega
theorem c_pos {q : Rat} (h : sg (fun _ => q) = 1) : 0 < q := by
  rw [sg_c] at h
  unfold sgq at h
  refine Rat.not_le.mp fun c => ?_
  rw [if_neg (by grind)] at h
  split at h <;> exact absurd h (by decide)
theorem root_ge {a s r : Rat} (ha : 0 ≤ a) (hs : 0 < s) (hr : 0 ≤ r) (h : r * r ≤ a * (s * s)) : 0 ≤ sg fun n => s * rt a n - r := by
  have cs := qC s ha
  refine nn_of (cs.sub (IsC.const r)) fun k => ?_
  have c1 := (cs.sub (IsC.const r)).neg
  have nn2 : 0 ≤ sg fun n => 2 * (s * rt a n) := sg_nn ((IsC.const 2).mul cs) fun n => Rat.mul_nonneg (by decide) (Rat.mul_nonneg (by grind) (rt_nn ha n).1)
  have p1 := pos_add c1 ((IsC.const 2).mul cs) k nn2
  have p2 : sg (fun n => -(s * rt a n - r) * (-(s * rt a n - r) + 2 * (s * rt a n))) = 1 := by rw [sg_mul c1 (c1.add ((IsC.const 2).mul cs)), k, p1]; rfl
  have n1 := null_mul (IsC.const (s * s)) (((rt_C ha).mul (rt_C ha)).sub (IsC.const a)) (rt_sq ha)
  have p3 := pos_add (c1.mul (c1.add ((IsC.const 2).mul cs))) ((IsC.const (s * s)).mul (((rt_C ha).mul (rt_C ha)).sub (IsC.const a))) p2 (by rw [n1]; exact Int.le_refl _)
  rw [show (fun n => -(s * rt a n - r) * (-(s * rt a n - r) + 2 * (s * rt a n)) + s * s * (rt a n * rt a n - a)) = fun _ => r * r - a * (s * s) from funext fun n => by grind] at p3
  have := c_pos p3
  grind
theorem root_le {a s r : Rat} (ha : 0 ≤ a) (hs : 0 < s) (hr : 0 ≤ r) (h : a * (s * s) ≤ r * r) : 0 ≤ sg fun n => r - s * rt a n := by
  have cs := qC s ha
  refine nn_of ((IsC.const r).sub cs) fun k => ?_
  have c1 := ((IsC.const r).sub cs).neg
  have p1 := pos_add c1 (IsC.const (2 * r)) k (nn_const (by grind))
  have p2 : sg (fun n => -(r - s * rt a n) * (-(r - s * rt a n) + 2 * r)) = 1 := by rw [sg_mul c1 (c1.add (IsC.const (2 * r))), k, p1]; rfl
  have n1 := null_mul (IsC.const (-(s * s))) (((rt_C ha).mul (rt_C ha)).sub (IsC.const a)) (rt_sq ha)
  have p3 := pos_add (c1.mul (c1.add (IsC.const (2 * r)))) ((IsC.const (-(s * s))).mul (((rt_C ha).mul (rt_C ha)).sub (IsC.const a))) p2 (by rw [n1]; exact Int.le_refl _)
  rw [show (fun n => -(r - s * rt a n) * (-(r - s * rt a n) + 2 * r) + -(s * s) * (rt a n * rt a n - a)) = fun _ => a * (s * s) - r * r from funext fun n => by grind] at p3
  have := c_pos p3
  grind
/-- what stands between two whole numbers -/
structure Btw (f : Q) (s lo hi : Rat) : Prop where
  l : 0 ≤ sg fun n => s * f n - lo
  h : 0 ≤ sg fun n => hi - s * f n
theorem btw_form {p a s low root : Rat} {w : Rat} (hw : Unit3 w) (ha : 0 ≤ a) (hs : 0 < s) (h1 : low ≤ p * s) (h2 : p * s ≤ low + 1) (h0 : 0 ≤ root) (r1 : root * root ≤ a * (s * s)) (r2 : a * (s * s) ≤ (root + 1) * (root + 1)) :
    (w = -1 → Btw (fun n => p + w * rt a n) s (low - root - 1) (low + 1 - root)) ∧ (w = 1 ∨ w = 0 → Btw (fun n => p + w * rt a n) s (low + w * root) (low + 1 + w * (root + 1))) := by
  have g := root_ge ha hs h0 r1
  have l := root_le ha hs (show 0 ≤ root + 1 by grind) r2
  have cs := qC s ha
  have cg := cs.sub (IsC.const root)
  have cl := (IsC.const (root + 1)).sub cs
  have k1 := nn_add cg (IsC.const (p * s - low)) g (nn_const (by grind))
  have k2 := nn_add cg (IsC.const (low + 1 - p * s)) g (nn_const (by grind))
  have k3 := nn_add cl (IsC.const (p * s - low)) l (nn_const (by grind))
  have k4 := nn_add cl (IsC.const (low + 1 - p * s)) l (nn_const (by grind))
  refine ⟨fun e => ?_, fun e => ?_⟩
  · subst e
    exact ⟨by rw [show (fun n => s * (p + -1 * rt a n) - (low - root - 1)) = fun n => (root + 1 - s * rt a n) + (p * s - low) from funext fun n => by grind]; exact k3,
      by rw [show (fun n => (low + 1 - root) - s * (p + -1 * rt a n)) = fun n => (s * rt a n - root) + (low + 1 - p * s) from funext fun n => by grind]; exact k2⟩
  · rcases e with rfl | rfl
    · exact ⟨by rw [show (fun n => s * (p + 1 * rt a n) - (low + 1 * root)) = fun n => (s * rt a n - root) + (p * s - low) from funext fun n => by grind]; exact k1,
        by rw [show (fun n => (low + 1 + 1 * (root + 1)) - s * (p + 1 * rt a n)) = fun n => (root + 1 - s * rt a n) + (low + 1 - p * s) from funext fun n => by grind]; exact k4⟩
    · exact ⟨by rw [show (fun n => s * (p + 0 * rt a n) - (low + 0 * root)) = fun n => p * s - low from funext fun n => by grind]; exact nn_const (by grind),
        by rw [show (fun n => (low + 1 + 0 * (root + 1)) - s * (p + 0 * rt a n)) = fun n => low + 1 - p * s from funext fun n => by grind]; exact nn_const (by grind)⟩
theorem btw_lt {f g : Q} {s a b c d : Rat} (hf : IsC f) (hg : IsC g) (hs : 0 < s) (x : Btw f s a b) (y : Btw g s c d) (h : b < c) : sg (fun n => f n - g n) = -1 := by
  have sf := (IsC.const s).mul hf
  have sg' := (IsC.const s).mul hg
  have k1 := nn_add ((IsC.const b).sub sf) (sg'.sub (IsC.const c)) x.h y.l
  have k2 := pos_add (IsC.const (c - b)) (((IsC.const b).sub sf).add (sg'.sub (IsC.const c))) (by rw [sg_c]; unfold sgq; rw [if_pos (by grind)]) k1
  rw [show (fun n => (c - b) + ((b - s * f n) + (s * g n - c))) = fun n => s * -(f n - g n) from funext fun n => by grind, sg_smul s (hf.sub hg).neg, sg_neg (hf.sub hg)] at k2
  unfold sgq at k2
  rw [if_pos hs] at k2
  omega
theorem btw_near {f g : Q} {s a b c d : Rat} (hf : IsC f) (hg : IsC g) (hs : 0 < s) (x : Btw f s a b) (y : Btw g s c d) (wx : b ≤ a + 2) (wy : d ≤ c + 2) (h1 : c ≤ b) (h2 : a ≤ d) {e : Rat} (he : 0 ≤ e) (k : Ge (fun n => f n - g n) e) : s * e ≤ 4 := by
  have sf := (IsC.const s).mul hf
  have sg' := (IsC.const s).mul hg
  have cD := (IsC.const s).mul (hf.sub hg)
  -- f - g up to d + ... : s f <= b <= a + 2 <= d + 2 <= c + 4, s g >= c
  have k1 := nn_add (((IsC.const b).sub sf).add (sg'.sub (IsC.const c))) (IsC.const (4 + c - b)) (nn_add ((IsC.const b).sub sf) (sg'.sub (IsC.const c)) x.h y.l) (nn_const (by grind))
  have k2 := nn_add (((IsC.const d).sub sg').add (sf.sub (IsC.const a))) (IsC.const (4 + a - d)) (nn_add ((IsC.const d).sub sg') (sf.sub (IsC.const a)) y.h x.l) (nn_const (by grind))
  have k3 := nn_mul ((((IsC.const b).sub sf).add (sg'.sub (IsC.const c))).add (IsC.const (4 + c - b))) ((((IsC.const d).sub sg').add (sf.sub (IsC.const a))).add (IsC.const (4 + a - d))) k1 k2
  have k4 := nn_mul (IsC.const (s * s)) (((hf.sub hg).mul (hf.sub hg)).sub (IsC.const (e * e))) (nn_const (sq_nn s)) k
  have k5 := nn_add (((((IsC.const b).sub sf).add (sg'.sub (IsC.const c))).add (IsC.const (4 + c - b))).mul ((((IsC.const d).sub sg').add (sf.sub (IsC.const a))).add (IsC.const (4 + a - d)))) ((IsC.const (s * s)).mul (((hf.sub hg).mul (hf.sub hg)).sub (IsC.const (e * e)))) k3 k4
  rw [show (fun n => ((b - s * f n) + (s * g n - c) + (4 + c - b)) * ((d - s * g n) + (s * f n - a) + (4 + a - d)) + s * s * ((f n - g n) * (f n - g n) - e * e)) = fun _ => 16 - s * e * (s * e) from funext fun n => by grind] at k5
  have k6 := const_nn k5
  refine Rat.not_lt.mp fun c => ?_
  have := Rat.mul_pos (a := s * e - 4) (b := s * e + 4) (by grind) (by grind)
  grind
/-! ### a root number's form -/
theorem rt_scale {z E : Rat} (hz : 0 < z) (hE : 0 ≤ E) : sg (fun n => rt (z * z * E) n - z * rt E n) = 0 := by
  have h1 : 0 ≤ z * z * E := Rat.mul_nonneg (Rat.mul_nonneg (by grind) (by grind)) hE
  refine sq_unique (rt_C h1) (qC z hE) (rt_nn0 h1) (sg_nn (qC z hE) fun n => Rat.mul_nonneg (by grind) (rt_nn hE n).1) ?_
  have c1 := (sq_C h1).sub (IsC.const (z * z * E))
  have c2 := (IsC.const (-(z * z))).mul ((sq_C hE).sub (IsC.const E))
  have n2 := null_mul (IsC.const (-(z * z))) ((sq_C hE).sub (IsC.const E)) (rt_sq hE)
  have := null_add c1 c2 (rt_sq h1) n2
  rw [← this]
  congr 1
  funext n
  grind
theorem rt_of_sq {t : Rat} (h : 0 ≤ t) : sg (fun n => rt (t * t) n - t) = 0 := by
  have h1 := sq_nn t
  refine sq_unique (rt_C h1) (IsC.const t) (rt_nn0 h1) (nn_const h) ?_
  have := rt_sq h1
  exact this
/-- which way a root part goes -/
def wayQ (q : Rat) : Rat := if 0 < q then 1 else if q < 0 then -1 else 0
theorem form_root (p q : Rat) {d : Rat} (hd : 0 ≤ d) : sg (fun n => (p + q * rt d n) - (p + wayQ q * rt (q * q * d) n)) = 0 := by
  have hs : 0 ≤ q * q * d := Rat.mul_nonneg (sq_nn q) hd
  unfold wayQ
  split
  · rename_i h
    have := sg_neg ((rt_C hs).sub (qC q hd))
    rw [rt_scale h hd] at this
    rw [show (fun n => (p + q * rt d n) - (p + 1 * rt (q * q * d) n)) = fun n => -(rt (q * q * d) n - q * rt d n) from funext fun n => by grind, this]
    rfl
  · split
    · rename_i h
      have := rt_scale (z := -q) (by grind) hd
      rw [show -q * -q * d = q * q * d by grind] at this
      rw [← this]
      congr 1
      funext n
      grind
    · have q0 : q = 0 := by grind
      rw [show (fun n => (p + q * rt d n) - (p + 0 * rt (q * q * d) n)) = fun _ => (0 : Rat) from funext fun n => by rw [q0]; grind, sg_c]
      unfold sgq
      simp
theorem form_plain (p q : Rat) {d t : Rat} (hd : 0 ≤ d) (ht : 0 ≤ t) (e : q * q * d = t * t) : sg (fun n => (p + q * rt d n) - ((p + wayQ q * t) + 0 * rt 0 n)) = 0 := by
  have a := form_root p q hd
  rw [e] at a
  have hs := sq_nn t
  have b := null_mul (IsC.const (wayQ q)) ((rt_C hs).sub (IsC.const t)) (rt_of_sq ht)
  have := null_add (((IsC.const p).add (qC q hd)).sub ((IsC.const p).add (qC (wayQ q) hs))) ((IsC.const (wayQ q)).mul ((rt_C hs).sub (IsC.const t))) a b
  rw [← this]
  congr 1
  funext n
  grind
theorem num_sq (t : Rat) : (t * t).num = t.num * t.num ∧ (t * t).den = t.den * t.den := by
  have co : (t.num * t.num).natAbs.Coprime (t.den * t.den) := by
    rw [Int.natAbs_mul]
    exact (t.reduced.mul_left t.reduced).mul_right (t.reduced.mul_left t.reduced)
  have nz : t.den * t.den ≠ 0 := Nat.mul_ne_zero t.den_nz t.den_nz
  have e : (⟨t.num * t.num, t.den * t.den, nz, co⟩ : Rat) = t * t := by
    rw [Rat.mul_def, Rat.normalize_eq]
    have g : (t.num * t.num).natAbs.gcd (t.den * t.den) = 1 := co
    simp [g]
  rw [← e]
  exact ⟨rfl, rfl⟩
end RT

namespace ML
open PySem PySem.Spec PyProof.Rows L2
/-! ### from what is wanted at the end back to the begin -/
def wE (f : Den) (env : En) (S : Sto) (Q : D → Sto → Prop) : Prop := ∃ d S', f env S = some (d, S') ∧ Q d S'
def wA (f : ADen) (env : En) (S : Sto) (Q : List D → Sto → Prop) : Prop := ∃ d S', f env S = some (d, S') ∧ Q d S'
def wT (f : TDen) (env : En) (S : Sto) (Q : Bool → Sto → Prop) : Prop := ∃ d S', f env S = some (d, S') ∧ Q d S'
def wS (f : SDen) (env : En) (S : Sto) (Q : Fl → En → Sto → Prop) : Prop := ∃ o e S', f env S = some (o, e, S') ∧ Q o e S'
def wF (F : Fn) (ds : List D) (S : Sto) (Q : D → Sto → Prop) : Prop := ∃ d S', F ds S = some (d, S') ∧ Q d S'
def w2 (g : Op2) (a b : D) (S : Sto) (Q : D → Sto → Prop) : Prop := ∃ d S', g a b S = some (d, S') ∧ Q d S'
def w1 (g : Op1) (a : D) (S : Sto) (Q : D → Sto → Prop) : Prop := ∃ d S', g a S = some (d, S') ∧ Q d S'
def wM (g : Mt) (a : D) (ds : List D) (S : Sto) (Q : D → Sto → Prop) : Prop := ∃ d S', g a ds S = some (d, S') ∧ Q d S'
def wG (g : GDen) (d : D) (env : En) (S : Sto) (Q : En → Sto → Prop) : Prop := ∃ e S', g d env S = some (e, S') ∧ Q e S'
def wGs (g : GsDen) (d : List D) (env : En) (S : Sto) (Q : En → Sto → Prop) : Prop := ∃ e S', g d env S = some (e, S') ∧ Q e S'
def wI (g : IDen) (env : En) (S : Sto) (Q : List D → List (Nat × Ob) → Sto → Prop) : Prop := ∃ it S', g env S = some (it, S') ∧ Q it.ds it.src S'
def wO (g : ODen) (env : En) (S : Sto) (Q : Option Int → Sto → Prop) : Prop := ∃ d S', g env S = some (d, S') ∧ Q d S'
def wR (src : List (Nat × Ob)) (g : GDen) (b : SDen) (ds : List D) (env : En) (S : Sto) (Q : Fl → En → Sto → Prop) : Prop := ∃ o e S', fRun src g b ds env S = some (o, e, S') ∧ Q o e S'
def wL (src : List (Nat × Ob)) (g : GDen) (t : TDen) (f : Den) (env : En) (ds acc : List D) (S : Sto) (Q : List D → Sto → Prop) : Prop := ∃ d S', lcRun src g t f env ds acc S = some (d, S') ∧ Q d S'
def wTru (d : D) (S : Sto) (Q : Bool → Sto → Prop) : Prop := ∃ k, truD d S = some k ∧ Q k S
/-- a fork -/
def wB (b : Bool) (A B : Prop) : Prop := if b = true then A else B
/-- a tuple that fits -/
def wLen (xs : List D) (A : Prop) : Prop := xs.length ≤ sizeLine ∧ A
def kC (c : SDen) (Q : Fl → En → Sto → Prop) : Fl → En → Sto → Prop
  | .nx, e, S => wS c e S Q
  | o, e, S => Q o e S
def kAB (Q : Bool → Sto → Prop) : D → Sto → Prop
  | .bl k, S => Q k S
  | _, _ => False
def kP (i j : Nat) (env : En) (Q : Fl → En → Sto → Prop) : List D → Sto → Prop
  | [a, b], S => Q .nx ((env.set i (some a)).set j (some b)) S
  | _, _ => False
def kP3 (i j l : Nat) (env : En) (Q : Fl → En → Sto → Prop) : List D → Sto → Prop
  | [a, b, c], S => Q .nx (((env.set i (some a)).set j (some b)).set l (some c)) S
  | _, _ => False
/-- o[i] = d -/
def wPut (d x y : D) (env : En) (S : Sto) (Q : En → Sto → Prop) : Prop := ∃ l i xs j, x = .loc l ∧ y = .int i ∧ S[l]? = some (.lst xs) ∧ ixN xs.length i = some j ∧ Q env (S.set l (.lst (xs.set j d)))
/-- x[lo:hi] -/
def wSl (x : D) (lo hi : Option Int) (S : Sto) (Q : D → Sto → Prop) : Prop := (∃ xs, x = .tup xs ∧ Q (.tup (cutD xs lo hi)) S) ∨ ∃ l xs, x = .loc l ∧ lsAt S l = some xs ∧ Q (.loc S.length) (S ++ [.lst (cutD xs lo hi)])
def wLi (x : D) (S : Sto) (Q : List D → Sto → Prop) : Prop := ∃ xs, (x = .tup xs ∨ ∃ l, x = .loc l ∧ lsAt S l = some xs) ∧ Q xs S
def wTup (xs : List D) (S : Sto) (Q : D → Sto → Prop) : Prop := xs.length ≤ sizeLine ∧ Q (.tup xs) S
def asT : D → Option (List D)
  | .tup xs => some xs
  | _ => none
def wSeq (x : D) (S : Sto) (Q : List D → List (Nat × Ob) → Sto → Prop) : Prop := (∃ ys, x = .tup ys ∧ Q ys [] S) ∨ ∃ l ys, x = .loc l ∧ S[l]? = some (.lst ys) ∧ Q ys [(l, .lst ys)] S
def wZip (xs : List D) (S : Sto) (Q : List D → List (Nat × Ob) → Sto → Prop) : Prop := (∃ us vs, xs = [.tup us, .tup vs] ∧ Q (zipD us vs) [] S) ∨ ∃ l m us vs, xs = [.loc l, .loc m] ∧ S[l]? = some (.lst us) ∧ S[m]? = some (.lst vs) ∧ Q (zipD us vs) [(l, .lst us), (m, .lst vs)] S
/-- what a def's end hands out -/
def kR (n : Nat) (Q : D → Sto → Prop) : Fl → En → Sto → Prop
  | .rt d, _, S => Q (gc n d S).1 (gc n d S).2
  | .nx, _, S => Q (gc n .non S).1 (gc n .non S).2
  | _, _, _ => False
inductive SetR : En → Nat → D → En → Prop where
  | z {x : Option D} {e : En} {d : D} : SetR (x :: e) 0 d (some d :: e)
  | s {x : Option D} {e e' : En} {n : Nat} {d : D} : SetR e n d e' → SetR (x :: e) (n + 1) d (x :: e')
theorem SetR.eq : ∀ {e : En} {n : Nat} {d : D} {e' : En}, SetR e n d e' → e.set n (some d) = e'
  | _, _, _, _, .z => rfl
  | _, _, _, _, .s h => by rw [List.set_cons_succ, h.eq]
inductive NoneR : En → Nat → En → Prop where
  | z {x : Option D} {e : En} : NoneR (x :: e) 0 (none :: e)
  | s {x : Option D} {e e' : En} {n : Nat} : NoneR e n e' → NoneR (x :: e) (n + 1) (x :: e')
theorem NoneR.eq : ∀ {e : En} {n : Nat} {e' : En}, NoneR e n e' → e.set n none = e'
  | _, _, _, .z => rfl
  | _, _, _, .s h => by rw [List.set_cons_succ, h.eq]
inductive WipeR : En → List Nat → En → Prop where
  | z {e : En} : WipeR e [] e
  | s {e e1 e' : En} {n : Nat} {r : List Nat} : WipeR e r e1 → NoneR e1 n e' → WipeR e (n :: r) e'
theorem WipeR.eq : ∀ {e : En} {n : List Nat} {e' : En}, WipeR e n e' → wipeE e n = e'
  | _, _, _, .z => rfl
  | _, _, _, .s h h' => by rw [wipeE, h.eq, h'.eq]
inductive RepR : Nat → En → Prop where
  | z : RepR 0 []
  | s {n : Nat} {e : En} : RepR n e → RepR (n + 1) (none :: e)
theorem RepR.eq : ∀ {n : Nat} {e : En}, RepR n e → e = List.replicate n none
  | _, _, .z => rfl
  | _, _, .s h => by rw [h.eq]; rfl
inductive InitR : List D → Nat → En → Prop where
  | z {n : Nat} {e : En} : RepR n e → InitR [] n e
  | s {x : D} {xs : List D} {n : Nat} {e : En} : InitR xs n e → InitR (x :: xs) (n + 1) (some x :: e)
theorem InitR.eq : ∀ {xs : List D} {n : Nat} {e : En}, InitR xs n e → xs.map some ++ List.replicate (n - xs.length) none = e
  | _, _, _, .z h => by rw [h.eq]; rfl
  | _, _, _, .s (n := n) (xs := xs) h => by
    rw [List.map_cons, List.cons_append, List.length_cons, Nat.add_sub_add_right, h.eq]
section
variable {env env' env2 : En} {S S' : Sto} {f g h0 : Den} {t u : TDen} {a : ADen} {d x y z : D} {b c : SDen} {op : Op2} {o1 : Op1} {F : Fn} {gg : GDen} {gs : GsDen} {it : IDen}
variable {Q : D → Sto → Prop} {QA : List D → Sto → Prop} {QT : Bool → Sto → Prop} {QS : Fl → En → Sto → Prop} {QG : En → Sto → Prop} {QO : Option Int → Sto → Prop} {QI : List D → List (Nat × Ob) → Sto → Prop} {i j l n : Nat} {xs ys : List D} {A B : Prop} {k : Bool}
theorem w_E (h : f env S = some (d, S')) (q : Q d S') : wE f env S Q := ⟨_, _, h, q⟩
theorem w_F (h : F xs S = some (d, S')) (q : Q d S') : wF F xs S Q := ⟨_, _, h, q⟩
theorem w_2 (h : op x y S = some (d, S')) (q : Q d S') : w2 op x y S Q := ⟨_, _, h, q⟩
theorem w_var (h : env[i]? = some (some d)) (q : Q d S) : wE (eVar i) env S Q := ⟨d, S, by unfold eVar; rw [h], q⟩
theorem w_c (q : Q d S) : wE (eC d) env S Q := ⟨d, S, rfl, q⟩
theorem w_op (h : wE f env S fun x S1 => wE g env S1 fun y S2 => w2 op x y S2 Q) : wE (eOp op f g) env S Q := by
  obtain ⟨x, S1, e1, y, S2, e2, d, S3, e3, q⟩ := h
  exact ⟨d, S3, by rw [x_op, e1, Option.bind_some, e2]; exact e3, q⟩
theorem w_un (h : wE f env S fun x S1 => w1 o1 x S1 Q) : wE (eUn o1 f) env S Q := by
  obtain ⟨x, S1, e1, d, S3, e3, q⟩ := h
  exact ⟨d, S3, by rw [x_un, e1]; exact e3, q⟩
theorem w_anil (q : QA [] S) : wA aNil env S QA := ⟨[], S, rfl, q⟩
theorem w_acons (h : wE f env S fun x S1 => wA a env S1 fun xs S2 => QA (x :: xs) S2) : wA (aCons f a) env S QA := by
  obtain ⟨x, S1, e1, y, S2, e2, q⟩ := h
  exact ⟨x :: y, S2, by rw [x_acons, e1, Option.bind_some, e2]; rfl, q⟩
theorem w_tup2 (h : wA a env S fun xs S1 => wTup xs S1 Q) : wE (eTup a) env S Q := by
  obtain ⟨x, S1, e1, hl, q⟩ := h
  exact ⟨.tup x, S1, by rw [x_tup, e1, Option.bind_some, if_pos hl], q⟩
theorem wTup_any (q : Q (.tup xs) S) (h : xs.length ≤ 1000 := by exact Nat.le_of_ble_eq_true rfl) : wTup xs S Q := ⟨line_pos h, q⟩
theorem wTup_q0 (k : Q (rq 0) S) : wTup [.int 0, .int 1] S Q := wTup_any k
theorem wTup_q1 (k : Q (rq 1) S) : wTup [.int 1, .int 1] S Q := wTup_any k
theorem wTup_q2 (k : Q (rq 2) S) : wTup [.int 2, .int 1] S Q := wTup_any k
theorem wTup_qm1 (k : Q (rq (-1)) S) : wTup [.int (-1), .int 1] S Q := wTup_any k
theorem wTup_qm2 (k : Q (rq (-2)) S) : wTup [.int (-2), .int 1] S Q := wTup_any k
theorem wTup_q (q : Rat) (k : Q (rq q) S) : wTup [.int q.num, .int q.den] S Q := wTup_any k
theorem wTup_p {a b c : Rat} (k : Q (rp a b c) S) : wTup [rq a, rq b, rq c] S Q := wTup_any k
theorem w_c0 (k : Q (rq 0) S) : wE (eC (.tup [.int 0, .int 1])) env S Q := w_E rfl k
theorem w_c1 (k : Q (rq 1) S) : wE (eC (.tup [.int 1, .int 1])) env S Q := w_E rfl k
theorem w_len (q : A) (h : xs.length ≤ 1000 := by decide) : wLen xs A := ⟨line_pos h, q⟩
theorem w_call (h : wA a env S fun xs S1 => wF F xs S1 Q) : wE (eCall F a) env S Q := by
  obtain ⟨x, S1, e1, d, S2, e2, q⟩ := h
  exact ⟨d, S2, by rw [x_call, e1, Option.bind_some, e2], q⟩
theorem w_eif (h : wT t env S fun k S1 => wB k (wE f env S1 Q) (wE g env S1 Q)) : wE (eIf t f g) env S Q := by
  obtain ⟨k, S1, e1, h⟩ := h
  unfold wB at h
  split at h
  · rename_i hk
    obtain ⟨d, S2, e2, q⟩ := h
    exact ⟨d, S2, by rw [x_if, e1, Option.bind_some, if_pos hk, e2], q⟩
  · rename_i hk
    obtain ⟨d, S2, e2, q⟩ := h
    exact ⟨d, S2, by rw [x_if, e1, Option.bind_some, if_neg hk, e2], q⟩
theorem w_eand (h : wE f env S fun x S1 => wTru x S1 fun k S2 => wB k (wE g env S1 Q) (Q x S1)) : wE (eAnd f g) env S Q := by
  obtain ⟨x, S1, e1, k, e2, h⟩ := h
  unfold wB at h
  split at h
  · rename_i hk
    obtain ⟨d, S2, e3, q⟩ := h
    exact ⟨d, S2, by rw [x_and, e1, Option.bind_some, e2, Option.bind_some, if_pos hk, e3], q⟩
  · rename_i hk
    exact ⟨x, S1, by rw [x_and, e1, Option.bind_some, e2, Option.bind_some, if_neg hk], h⟩
theorem w_eor (h : wE f env S fun x S1 => wTru x S1 fun k S2 => wB k (Q x S1) (wE g env S1 Q)) : wE (eOr f g) env S Q := by
  obtain ⟨x, S1, e1, k, e2, h⟩ := h
  unfold wB at h
  split at h
  · rename_i hk
    exact ⟨x, S1, by rw [x_or, e1, Option.bind_some, e2, Option.bind_some, if_pos hk], h⟩
  · rename_i hk
    obtain ⟨d, S2, e3, q⟩ := h
    exact ⟨d, S2, by rw [x_or, e1, Option.bind_some, e2, Option.bind_some, if_neg hk, e3], q⟩
theorem w_enot (h : wE f env S fun x S1 => wTru x S1 fun k S2 => Q (.bl (!k)) S1) : wE (eNot f) env S Q := by
  obtain ⟨x, S1, e1, k, e2, h⟩ := h
  exact ⟨_, S1, by rw [x_not, e1, Option.bind_some, e2, Option.bind_some], h⟩
theorem w_tru (h : wE f env S fun x S1 => wTru x S1 QT) : wT (tTru f) env S QT := by
  obtain ⟨x, S1, e1, k, e2, h⟩ := h
  exact ⟨k, S1, by rw [x_tru, e1, Option.bind_some, e2]; rfl, h⟩
theorem w_asB (h : wE f env S (kAB QT)) : wT (asB f) env S QT := by
  obtain ⟨x, S1, e1, h⟩ := h
  cases x with
  | bl k => exact ⟨k, S1, by rw [x_asB, e1]; rfl, h⟩
  | _ => exact h.elim
theorem kAB_bl (q : QT k S) : kAB QT (.bl k) S := q
theorem wTru_bl (q : QT k S) : wTru (.bl k) S QT := ⟨k, rfl, q⟩
theorem wTru_int {i : Int} (q : QT (i != 0) S) : wTru (.int i) S QT := ⟨_, rfl, q⟩
theorem wTru_non (q : QT false S) : wTru .non S QT := ⟨_, rfl, q⟩
theorem w_tand (h : wT t env S fun k S1 => wB k (wT u env S1 QT) (QT false S1)) : wT (ML.tAnd t u) env S QT := by
  obtain ⟨k, S1, e1, h⟩ := h
  unfold wB at h
  split at h
  · rename_i hk
    obtain ⟨d, S2, e2, q⟩ := h
    exact ⟨d, S2, by rw [x_tand, e1, Option.bind_some, if_pos hk, e2], q⟩
  · rename_i hk
    exact ⟨false, S1, by rw [x_tand, e1, Option.bind_some, if_neg hk], h⟩
theorem w_tor (h : wT t env S fun k S1 => wB k (QT true S1) (wT u env S1 QT)) : wT (ML.tOr t u) env S QT := by
  obtain ⟨k, S1, e1, h⟩ := h
  unfold wB at h
  split at h
  · rename_i hk
    exact ⟨true, S1, by rw [x_tor, e1, Option.bind_some, if_pos hk], h⟩
  · rename_i hk
    obtain ⟨d, S2, e2, q⟩ := h
    exact ⟨d, S2, by rw [x_tor, e1, Option.bind_some, if_neg hk, e2], q⟩
theorem w_tnot (h : wT t env S fun k S1 => QT (!k) S1) : wT (ML.tNot t) env S QT := by
  obtain ⟨k, S1, e1, h⟩ := h
  exact ⟨_, S1, by rw [x_tnot, e1, Option.bind_some], h⟩
theorem w_tyes (q : QT true S) : wT ML.tYes env S QT := ⟨_, _, rfl, q⟩
theorem wB_t (q : A) : wB true A B := q
theorem wB_f (q : B) : wB false A B := (if_neg (by decide)).mpr q
theorem wB_not (q : wB k B A) : wB (!k) A B := by cases k <;> exact q
theorem w_own (h : wA a env S fun xs S1 => Q (.loc S1.length) (S1 ++ [.lst xs])) : wE (eOwn a) env S Q := by
  obtain ⟨x, S1, e1, q⟩ := h
  exact ⟨_, _, by rw [x_own, e1]; rfl, q⟩
theorem w_ulst (h : wA a env S fun xs S1 => wLen xs (QA xs S1)) : wA (uLst a) env S QA := by
  obtain ⟨x, S1, e1, hl, q⟩ := h
  exact ⟨x, S1, by rw [x_ulst, e1, Option.bind_some, if_pos hl], q⟩
theorem w_uix (h : wA a env S fun xs S1 => wE f env S1 fun y S2 => w2 gIx (.tup xs) y S2 Q) : wE (eUIx a f) env S Q := by
  obtain ⟨x, S1, e1, y, S2, e2, d, S3, e3, q⟩ := h
  cases y with
  | int i =>
    simp at e3
    obtain ⟨d', e4, rfl, rfl⟩ := e3
    exact ⟨d', S2, by rw [x_uix, e1, Option.bind_some, e2, Option.bind_some]; simp only; rw [e4]; rfl, q⟩
  | _ => simp [gIx] at e3
theorem w_u {F : Fn} (h : wA a env S fun xs S1 => wF F xs S1 Q) : wE (eU F a) env S Q := by
  obtain ⟨x, S1, e1, d, S2, e2, q⟩ := h
  exact ⟨d, S2, by rw [x_u, e1, Option.bind_some, e2], q⟩
theorem w_snil (q : QS .nx env S) : wS sNil env S QS := ⟨_, _, _, rfl, q⟩
theorem w_scons (h : wS b env S (kC c QS)) : wS (sCons b c) env S QS := by
  obtain ⟨o, e, S1, e1, h⟩ := h
  cases o with
  | nx =>
    obtain ⟨o, e', S2, e2, q⟩ := h
    exact ⟨o, e', S2, by rw [x_scons, e1]; exact e2, q⟩
  | _ => exact ⟨_, e, S1, by rw [x_scons, e1]; rfl, h⟩
theorem kC_nx (q : wS c env S QS) : kC c QS .nx env S := q
theorem kC_rt (q : QS (.rt d) env S) : kC c QS (.rt d) env S := q
theorem w_asg (h : wE f env S fun d S1 => wG gg d env S1 fun e S2 => QS .nx e S2) : wS (sAsg f gg) env S QS := by
  obtain ⟨x, S1, e1, e, S2, e2, q⟩ := h
  exact ⟨_, e, S2, by rw [x_asg, e1, Option.bind_some, e2]; rfl, q⟩
theorem w_asgU (h : wA a env S fun xs S1 => wG (ML.gName i) (.loc S1.length) env (S1 ++ [.lst xs]) fun e S2 => QS .nx e S2) : wS (sAsgU a i) env S QS := by
  obtain ⟨x, S1, e1, e, S2, e2, q⟩ := h
  cases e2
  exact ⟨_, _, _, by rw [x_asgU, e1]; rfl, q⟩
theorem w_gname (h : SetR env i d env') (q : QG env' S) : wG (ML.gName i) d env S QG := ⟨_, _, rfl, by rw [h.eq]; exact q⟩
theorem w_gtup (hl : xs.length = n) (h : wGs gs xs env S QG) : wG (ML.gTup n gs) (.tup xs) env S QG := by
  obtain ⟨e, S1, e1, q⟩ := h
  exact ⟨e, S1, by rw [x_gtup, if_pos hl, e1], q⟩
theorem w_gtupT (h0 : asT x = some xs) (hl : xs.length = n) (h : wGs gs xs env S QG) : wG (ML.gTup n gs) x env S QG := by
  cases x with
  | tup us => cases h0; exact w_gtup hl h
  | _ => cases h0
theorem w_gtupL (hl : xs.length = n) (h : wGs gs xs env S QG) : wG (gTupL n gs) (.tup xs) env S QG := by
  obtain ⟨e, S1, e1, q⟩ := h
  exact ⟨e, S1, by show (if xs.length = n then gs xs env S else none) = _; rw [if_pos hl, e1], q⟩
theorem w_put {fo fi : Den} (h : wE fo env S fun x S1 => wE fi env S1 fun y S2 => wPut d x y env S2 QG) : wG (gPut fo fi) d env S QG := by
  obtain ⟨x, S1, e1, y, S2, e2, l, i, xs, j, rfl, rfl, e3, e4, q⟩ := h
  exact ⟨env, _, by unfold gPut; rw [e1, Option.bind_some, e2, Option.bind_some]; simp only; rw [e3]; simp only; rw [e4]; rfl, q⟩
theorem w_gnil (q : QG env S) : wGs ML.gNil [] env S QG := ⟨_, _, rfl, q⟩
theorem w_gcons (h : wG gg d env S fun e S1 => wGs gs xs e S1 QG) : wGs (ML.gCons gg gs) (d :: xs) env S QG := by
  obtain ⟨e, S1, e1, e', S2, e2, q⟩ := h
  exact ⟨e', S2, by rw [x_gcons, e1, Option.bind_some, e2], q⟩
theorem w_par (h : wA a env S fun xs S1 => kP i j env QS xs S1) : wS (sPar i j a) env S QS := by
  obtain ⟨x, S1, e1, q⟩ := h
  match x, q with
  | [u, v], q => exact ⟨_, _, _, by rw [x_par, e1]; rfl, q⟩
theorem kP_2 (h : SetR env i x env') (h2 : SetR env' j y env2) (q : QS .nx env2 S) : kP i j env QS [x, y] S := by
  show QS .nx _ S
  rw [h.eq, h2.eq]; exact q
theorem w_par3 (h : wA a env S fun xs S1 => kP3 i j l env QS xs S1) : wS (sPar3 i j l a) env S QS := by
  obtain ⟨x, S1, e1, q⟩ := h
  match x, q with
  | [u, v, w], q => exact ⟨_, _, _, by rw [x_par3, e1]; rfl, q⟩
theorem kP3_3 {env3 : En} (h : SetR env i x env') (h2 : SetR env' j y env2) (h3 : SetR env2 l z env3) (q : QS .nx env3 S) : kP3 i j l env QS [x, y, z] S := by
  show QS .nx _ S
  rw [h.eq, h2.eq, h3.eq]; exact q
theorem w_ret (h : wE f env S fun d S1 => QS (.rt d) env S1) : wS (sRet f) env S QS := by
  obtain ⟨x, S1, e1, q⟩ := h
  exact ⟨_, _, _, by rw [x_ret, e1]; rfl, q⟩
theorem w_retN (q : QS (.rt .non) env S) : wS sRetN env S QS := ⟨_, _, _, rfl, q⟩
theorem w_expr (h : wE f env S fun d S1 => QS .nx env S1) : wS (sExpr f) env S QS := by
  obtain ⟨x, S1, e1, q⟩ := h
  exact ⟨_, _, _, by rw [x_expr, e1]; rfl, q⟩
theorem w_sif (h : wT t env S fun k S1 => wB k (wS b env S1 QS) (wS c env S1 QS)) : wS (sIf t b c) env S QS := by
  obtain ⟨k, S1, e1, h⟩ := h
  unfold wB at h
  split at h
  · rename_i hk
    obtain ⟨o, e, S2, e2, q⟩ := h
    exact ⟨o, e, S2, by rw [x_sif, e1, Option.bind_some, if_pos hk, e2], q⟩
  · rename_i hk
    obtain ⟨o, e, S2, e2, q⟩ := h
    exact ⟨o, e, S2, by rw [x_sif, e1, Option.bind_some, if_neg hk, e2], q⟩
theorem w_bk (q : QS .bk env S) : wS sBk env S QS := ⟨_, _, _, rfl, q⟩
theorem w_ct (q : QS .ct env S) : wS sCt env S QS := ⟨_, _, _, rfl, q⟩
theorem w_aug (h : env[i]? = some (some x)) (q : wE f env S fun y S1 => w2 op x y S1 fun d S2 => wG (ML.gName i) d env S2 fun e S3 => QS .nx e S3) : wS (sAug i op f) env S QS := by
  obtain ⟨y, S1, e1, d, S2, e2, e, S3, e3, q⟩ := q
  cases e3
  exact ⟨_, _, _, by unfold sAug; rw [h]; simp only; rw [e1, Option.bind_some, e2]; rfl, q⟩
theorem w_for (h : wI it env S fun ds src S1 => wR src gg b ds env S1 QS) : wS (sFor it gg b) env S QS := by
  obtain ⟨t, S1, e1, o, e, S2, e2, q⟩ := h
  exact ⟨o, e, S2, by rw [x_for, e1, Option.bind_some, e2], q⟩
/-- what follows a turn -/
def kL (next : En → Sto → Prop) (Q : Fl → En → Sto → Prop) : Fl → En → Sto → Prop
  | .nx, e, S => next e S
  | .ct, e, S => next e S
  | .bk, e, S => Q .nx e S
  | .rt d, e, S => Q (.rt d) e S
theorem kL_nx {N : En → Sto → Prop} (q : N env S) : kL N QS .nx env S := q
theorem kL_ct {N : En → Sto → Prop} (q : N env S) : kL N QS .ct env S := q
theorem kL_bk {N : En → Sto → Prop} (q : QS .nx env S) : kL N QS .bk env S := q
theorem kL_rt {N : En → Sto → Prop} (q : QS (.rt d) env S) : kL N QS (.rt d) env S := q
theorem w_rnil {src : List (Nat × Ob)} (so : srcOk src S) (q : QS .nx env S) : wR src gg b [] env S QS := ⟨_, _, _, by rw [fRun, if_pos so], q⟩
theorem w_rcons {src : List (Nat × Ob)} (so : srcOk src S) (h : wG gg d env S fun e S1 => wS b e S1 (kL (fun e S2 => wR src gg b xs e S2 QS) QS)) : wR src gg b (d :: xs) env S QS := by
  obtain ⟨e, S1, e1, o, e', S2, e2, h⟩ := h
  cases o with
  | nx => obtain ⟨o, e3, S3, e4, q⟩ := h; exact ⟨o, e3, S3, by rw [fRun, if_pos so, e1, Option.bind_some, e2, Option.bind_some]; exact e4, q⟩
  | ct => obtain ⟨o, e3, S3, e4, q⟩ := h; exact ⟨o, e3, S3, by rw [fRun, if_pos so, e1, Option.bind_some, e2, Option.bind_some]; exact e4, q⟩
  | bk => exact ⟨_, _, _, by rw [fRun, if_pos so, e1, Option.bind_some, e2]; rfl, h⟩
  | rt d => exact ⟨_, _, _, by rw [fRun, if_pos so, e1, Option.bind_some, e2]; rfl, h⟩
/-- a for by what holds ahead of each turn -/
theorem w_rinv {src : List (Nat × Ob)} (I : Nat → En → Sto → Prop) (h0 : I 0 env S) (so : ∀ i e S, I i e S → srcOk src S)
    (hs : ∀ i d e S, xs[i]? = some d → I i e S → wG gg d e S fun e1 S1 => wS b e1 S1 (kL (I (i + 1)) QS)) (he : ∀ e S, I xs.length e S → QS .nx e S) : wR src gg b xs env S QS := by
  suffices ∀ (ys : List D) (k : Nat) (env : En) (S : Sto), xs.drop k = ys → k ≤ xs.length → I k env S → wR src gg b ys env S QS from this xs 0 env S rfl (Nat.zero_le _) h0
  intro ys
  induction ys with
  | nil =>
    intro k env S e hk hI
    have : k = xs.length := by
      have := congrArg List.length e
      simp at this; omega
    subst this
    exact w_rnil (so _ _ _ hI) (he _ _ hI)
  | cons y ys ih =>
    intro k env S e hk hI
    have hk2 : k < xs.length := by
      have := congrArg List.length e
      simp at this; omega
    have hy : xs[k]? = some y := by
      have := congrArg (fun l => l[0]?) e
      simpa using this
    have hd : xs.drop (k + 1) = ys := by
      have := congrArg List.tail e
      simpa using this
    refine w_rcons (so _ _ _ hI) ?_
    obtain ⟨e1, S1, a1, o, e2, S2, a2, h⟩ := hs k y env S hy hI
    refine ⟨e1, S1, a1, o, e2, S2, a2, ?_⟩
    cases o with
    | nx => exact ih (k + 1) e2 S2 hd hk2 h
    | ct => exact ih (k + 1) e2 S2 hd hk2 h
    | bk => exact h
    | rt d => exact h
theorem w_ulc {vs : List Nat} (hw : WipeR env vs env') (h : wI it env S fun ds src S1 => wL src gg t f env' ds [] S1 QA) : wA (uLc it gg t f vs) env S QA := by
  rw [← hw.eq] at h
  obtain ⟨p, S1, e1, x, S2, e2, q⟩ := h
  exact ⟨x, S2, by rw [x_lc, e1, Option.bind_some, e2], q⟩
theorem w_lnil {src : List (Nat × Ob)} (so : srcOk src S) (q : QA ys S) : wL src gg t f env [] ys S QA := ⟨_, _, by rw [lcRun, if_pos so], q⟩
theorem w_lnil2 {src : List (Nat × Ob)} (so : srcOk src S) (h : ys = xs) (q : QA xs S) : wL src gg t f env [] ys S QA := by subst h; exact w_lnil so q
theorem w_lcons {src : List (Nat × Ob)} (so : srcOk src S) (hl : ys.length < 1000) (h : wG gg d env S fun e S1 => wT t e S1 fun k S2 => wB k (wE f e S2 fun r S3 => wL src gg t f env xs (ys ++ [r]) S3 QA) (wL src gg t f env xs ys S2 QA)) : wL src gg t f env (d :: xs) ys S QA := by
  obtain ⟨e, S1, e1, k, S2, e2, h⟩ := h
  have hz : ys.length < sizeLine := by rw [sizeLine_eq]; omega
  unfold wB at h
  split at h
  · rename_i hk
    obtain ⟨r, S3, e3, z, S4, e4, q⟩ := h
    exact ⟨z, S4, by rw [lcRun, if_pos so, e1, Option.bind_some, e2, Option.bind_some, if_pos hk, e3, Option.bind_some, if_pos hz, e4], q⟩
  · rename_i hk
    obtain ⟨z, S4, e4, q⟩ := h
    exact ⟨z, S4, by rw [lcRun, if_pos so, e1, Option.bind_some, e2, Option.bind_some, if_neg hk, e4], q⟩
/-- while by what holds ahead of each test, and what falls -/
theorem w_while (I : En → Sto → Prop) (μ : En → Sto → Nat) (h0 : I env S)
    (hs : ∀ e S, I e S → wT t e S fun k S1 => wB k (wS b e S1 (kL (fun e' S' => I e' S' ∧ μ e' S' < μ e S) QS)) (QS .nx e S1)) : wS (sWhile t b) env S QS := by
  suffices ∀ (n : Nat) (env : En) (S : Sto), μ env S ≤ n → I env S → wS (sWhile t b) env S QS from this (μ env S) env S (Nat.le_refl _) h0
  intro n
  induction n with
  | zero =>
    intro env S hn hI
    obtain ⟨k, S1, e1, h⟩ := hs env S hI
    unfold wB at h
    split at h
    · rename_i hk
      obtain ⟨o, e, S2, e2, h⟩ := h
      cases o with
      | nx => obtain ⟨_, z⟩ := h; omega
      | ct => obtain ⟨_, z⟩ := h; omega
      | bk => exact ⟨_, _, _, by rw [sWhile_eq, e1, Option.bind_some, if_pos hk, e2]; rfl, h⟩
      | rt d => exact ⟨_, _, _, by rw [sWhile_eq, e1, Option.bind_some, if_pos hk, e2]; rfl, h⟩
    · rename_i hk
      exact ⟨_, _, _, by rw [sWhile_eq, e1, Option.bind_some, if_neg hk], h⟩
  | succ n ih =>
    intro env S hn hI
    obtain ⟨k, S1, e1, h⟩ := hs env S hI
    unfold wB at h
    split at h
    · rename_i hk
      obtain ⟨o, e, S2, e2, h⟩ := h
      cases o with
      | nx =>
        obtain ⟨h, z⟩ := h
        obtain ⟨o, e', S3, e3, q⟩ := ih e S2 (by omega) h
        exact ⟨o, e', S3, by rw [sWhile_eq, e1, Option.bind_some, if_pos hk, e2, Option.bind_some]; exact e3, q⟩
      | ct =>
        obtain ⟨h, z⟩ := h
        obtain ⟨o, e', S3, e3, q⟩ := ih e S2 (by omega) h
        exact ⟨o, e', S3, by rw [sWhile_eq, e1, Option.bind_some, if_pos hk, e2, Option.bind_some]; exact e3, q⟩
      | bk => exact ⟨_, _, _, by rw [sWhile_eq, e1, Option.bind_some, if_pos hk, e2]; rfl, h⟩
      | rt d => exact ⟨_, _, _, by rw [sWhile_eq, e1, Option.bind_some, if_pos hk, e2]; rfl, h⟩
    · rename_i hk
      exact ⟨_, _, _, by rw [sWhile_eq, e1, Option.bind_some, if_neg hk], h⟩
theorem rngs_at {lo : Int} {n i : Nat} {d : D} (h : (rngs lo n)[i]? = some d) : d = .int (lo + (i : Int)) ∧ i < n := by
  unfold rngs at h
  rw [List.getElem?_map] at h
  obtain ⟨j, h1, rfl⟩ := Option.map_eq_some_iff.mp h
  obtain ⟨h2, h3⟩ := List.getElem?_eq_some_iff.mp h1
  simp at h2 h3
  exact ⟨by rw [← h3], h2⟩
theorem rngs_len {lo : Int} {n : Nat} : (rngs lo n).length = n := by simp [rngs]
/-! calls -/
theorem w_mk {np ns : Nat} {e0 : En} (hi : InitR xs ns e0) (hl : xs.length = np) (h : wS b e0 S (kR S.length Q)) : wF (mkFn np ns b) xs S Q := by
  have he := hi.eq
  rw [hl] at he
  subst he
  obtain ⟨o, e, S1, e1, h⟩ := h
  cases o with
  | rt d => exact ⟨_, _, by unfold mkFn; rw [if_pos hl, e1]; rfl, h⟩
  | nx => exact ⟨_, _, by unfold mkFn; rw [if_pos hl, e1]; rfl, h⟩
  | _ => exact h.elim
theorem kR_same (q : Q d S) (h : S.length = n := by rfl) : kR n Q (.rt d) env S := by subst h; show Q _ _; rw [gc_self]; exact q
theorem gc_1 : (gc n d S).1 = d := by unfold gc; split <;> rfl
theorem kR_any (q : ∀ S', Q d S') : kR n Q (.rt d) env S := by show Q _ _; rw [gc_1]; exact q _
/-! operators -/
theorem w_add {i j : Int} (q : Q (.int (i + j)) S) : w2 gAdd (.int i) (.int j) S Q := ⟨_, _, rfl, q⟩
theorem w_addI {i j : Int} (q : Q (.int (i + j)) S) : w2 gAddI (.int i) (.int j) S Q := ⟨_, _, rfl, q⟩
theorem w_sub {i j : Int} (q : Q (.int (i - j)) S) : w2 gSub (.int i) (.int j) S Q := ⟨_, _, rfl, q⟩
theorem w_mul {i j : Int} (h : wideM i j) (q : Q (.int (i * j)) S) : w2 gMul (.int i) (.int j) S Q := ⟨_, _, x_mul h, q⟩
theorem w_fdiv {i j : Int} (h : wideD j) (q : Q (.int (i.fdiv j)) S) : w2 gFdiv (.int i) (.int j) S Q := ⟨_, _, x_fdiv h, q⟩
theorem w_neg {i : Int} (q : Q (.int (-i)) S) : w1 gNeg (.int i) S Q := ⟨_, _, rfl, q⟩
theorem w_cmp {p : Int → Int → Bool} {i j : Int} (q : Q (.bl (p i j)) S) : w2 (gCmp p) (.int i) (.int j) S Q := ⟨_, _, rfl, q⟩
theorem w_eqi {i j : Int} (q : Q (.bl (decide (i = j))) S) : w2 cEq (.int i) (.int j) S Q := ⟨_, _, x_eqi, q⟩
theorem w_nei {i j : Int} (q : Q (.bl (!decide (i = j))) S) : w2 cNe (.int i) (.int j) S Q := ⟨_, _, x_nei, q⟩
theorem w_eqq {q r : Rat} (k : Q (.bl (decide (q = r))) S) : w2 cEq (rq q) (rq r) S Q := ⟨_, _, x_eqq, k⟩
theorem w_neq {q r : Rat} (k : Q (.bl (!decide (q = r))) S) : w2 cNe (rq q) (rq r) S Q := ⟨_, _, x_neq, k⟩
theorem w_eqpp {a b c a' b' c' : Rat} (q : Q (.bl (decide (a = a' ∧ b = b' ∧ c = c'))) S) : w2 cEq (rp a b c) (rp a' b' c') S Q := by
  obtain ⟨k, e, hk⟩ := eqP_pd (S := S) (d := rp a b c) (e := rp a' b' c') (n := 2) (m := 2) rfl rfl
  refine ⟨_, _, by rw [cEq, e]; rfl, ?_⟩
  have : decide (a = a' ∧ b = b' ∧ c = c') = k := by
    rw [Bool.eq_iff_iff, hk, decide_eq_true_eq, rp, rp]
    simp only [D.tup.injEq, List.cons.injEq, rq_inj, and_true]
  rw [← this]; exact q
theorem w_isNN (q : Q (.bl true) S) : w2 cIs .non .non S Q := ⟨_, _, rfl, q⟩
theorem w_isnNN (q : Q (.bl false) S) : w2 cIsNot .non .non S Q := ⟨_, _, rfl, q⟩
theorem w_isN (h : cIs d .non S = some (.bl false, S)) (q : Q (.bl false) S) : w2 cIs d .non S Q := ⟨_, _, h, q⟩
theorem w_isnN (h : cIsNot d .non S = some (.bl true, S)) (q : Q (.bl true) S) : w2 cIsNot d .non S Q := ⟨_, _, h, q⟩
theorem w_ix0 (q : Q x S) : w2 gIx (.tup (x :: xs)) (.int 0) S Q := ⟨_, _, by rw [x_ixt, atI_0]; rfl, q⟩
theorem w_ix1 (q : Q y S) : w2 gIx (.tup (x :: y :: xs)) (.int 1) S Q := ⟨_, _, by rw [x_ixt, atI_1]; rfl, q⟩
theorem w_ix2 (q : Q z S) : w2 gIx (.tup (x :: y :: z :: xs)) (.int 2) S Q := ⟨_, _, by rw [x_ixt, atI_2]; rfl, q⟩
theorem w_ix3 (q : Q d S) : w2 gIx (.tup (x :: y :: z :: d :: xs)) (.int 3) S Q := ⟨_, _, by rw [x_ixt, atI_3]; rfl, q⟩
theorem w_ix {i : Int} (h : atI xs i = some d) (q : Q d S) : w2 gIx (.tup xs) (.int i) S Q := ⟨_, _, by rw [x_ixt, h]; rfl, q⟩
theorem w_ixq0 {q : Rat} (k : Q (.int q.num) S) : w2 gIx (rq q) (.int 0) S Q := ⟨_, _, ix_q0, k⟩
theorem w_ixq1 {q : Rat} (k : Q (.int q.den) S) : w2 gIx (rq q) (.int 1) S Q := ⟨_, _, ix_q1, k⟩
theorem w_ixp0 {a b c : Rat} (k : Q (rq a) S) : w2 gIx (rp a b c) (.int 0) S Q := ⟨_, _, by rw [rp, x_ixt, atI_0]; rfl, k⟩
theorem w_ixp1 {a b c : Rat} (k : Q (rq b) S) : w2 gIx (rp a b c) (.int 1) S Q := ⟨_, _, by rw [rp, x_ixt, atI_1]; rfl, k⟩
theorem w_ixp2 {a b c : Rat} (k : Q (rq c) S) : w2 gIx (rp a b c) (.int 2) S Q := ⟨_, _, by rw [rp, x_ixt, atI_2]; rfl, k⟩
theorem w_int {i : Int} (q : Q (.int i) S) : wF bInt [.int i] S Q := ⟨_, _, rfl, q⟩
theorem w_intb (q : Q (.int (if k = true then 1 else 0)) S) : wF bInt [.bl k] S Q := ⟨_, _, rfl, q⟩
theorem w_abs {i : Int} (q : Q (.int (i.natAbs : Int)) S) : wF bAbs [.int i] S Q := ⟨_, _, x_abs, q⟩
theorem w_max {i j : Int} (q : Q (.int (max i j)) S) : wF bMax [.int i, .int j] S Q := ⟨_, _, x_max, q⟩
theorem w_min {i j : Int} (q : Q (.int (min i j)) S) : wF bMin [.int i, .int j] S Q := ⟨_, _, x_min, q⟩
theorem w_lent (q : Q (.int xs.length) S) : wF bLen [.tup xs] S Q := ⟨_, _, rfl, q⟩
theorem w_tupU (q : Q (.tup xs) S) : wF gTupU xs S Q := ⟨_, _, rfl, q⟩
theorem w_tupUp {a b c : Rat} (q : Q (rp a b c) S) : wF gTupU [rq a, rq b, rq c] S Q := ⟨_, _, rfl, q⟩
theorem w_lenU (q : Q (.int xs.length) S) : wF gLenU xs S Q := ⟨_, _, rfl, q⟩
theorem w_tupt (q : Q (.tup xs) S) : wF bTuple [.tup xs] S Q := ⟨_, _, rfl, q⟩
theorem w_mt {g : Mt} (h : wE f env S fun x S1 => isLs S1 x = true ∧ wA a env S1 fun xs S2 => wM g x xs S2 Q) : wE (eMt g f a) env S Q := by
  obtain ⟨x, S1, e1, hl, y, S2, e2, d, S3, e3, q⟩ := h
  exact ⟨d, S3, by unfold eMt; rw [e1, Option.bind_some, if_pos hl, e2, Option.bind_some, e3], q⟩
theorem w_sl {lo hi : ODen} (h : wE f env S fun x S1 => wO lo env S1 fun i S2 => wO hi env S2 fun j S3 => wSl x i j S3 Q) : wE (eSl f lo hi) env S Q := by
  obtain ⟨x, S1, e1, i, S2, e2, j, S3, e3, h⟩ := h
  rcases h with ⟨xs, rfl, q⟩ | ⟨l, xs, rfl, e4, q⟩
  · exact ⟨_, _, by rw [x_esl, e1, Option.bind_some, e2, Option.bind_some, e3]; rfl, q⟩
  · exact ⟨_, _, by rw [x_esl, e1, Option.bind_some, e2, Option.bind_some, e3, Option.bind_some]; simp only; rw [e4]; rfl, q⟩
theorem w_onone (q : QO none S) : wO oNone env S QO := ⟨_, _, rfl, q⟩
theorem wSl_t {lo hi : Option Int} (q : Q (.tup (cutD xs lo hi)) S) : wSl (.tup xs) lo hi S Q := .inl ⟨xs, rfl, q⟩
theorem w_uli (h : wE f env S fun x S1 => wLi x S1 QA) : wA (uLi f) env S QA := by
  obtain ⟨x, S1, e1, xs, h, q⟩ := h
  rcases h with rfl | ⟨l, rfl, e2⟩
  · exact ⟨_, _, by rw [x_li, e1]; rfl, q⟩
  · exact ⟨_, _, by rw [x_li, e1, Option.bind_some]; simp only; rw [e2]; rfl, q⟩
theorem wLi_t (q : QA xs S) : wLi (.tup xs) S QA := ⟨xs, .inl rfl, q⟩
theorem w_pow18 (q : Q (.int 1000000000000000000) S) : w2 gPow (.int 10) (.int 18) S Q := ⟨_, _, x_pow (by decide), q⟩
theorem w_isi {t : String} {c : String} (h1 : tyN S d = some t) (h2 : kitB t c = some k) (q : Q (.bl k) S) : wF bIsi [d, .ty c] S Q := ⟨_, _, by rw [x_isi, h1, Option.bind_some, h2]; rfl, q⟩
theorem w_eqd {m : Nat} (h1 : pd n x = true) (h2 : pd m y = true) (q : ∀ k, (k = true ↔ x = y) → Q (.bl k) S) (hn : n ≤ 60 := by decide) (hm : m ≤ 60 := by decide) : w2 cEq x y S Q := by
  obtain ⟨k, e, hk⟩ := eqP_pd (S := S) h1 h2 hn hm
  exact ⟨_, _, by rw [cEq, e]; rfl, q k hk⟩
theorem w_eqb {a b : Bool} (q : Q (.bl (decide (a = b))) S) : w2 cEq (.bl a) (.bl b) S Q := ⟨_, _, by
  show (eqP S (.bl a) (.bl b)).map _ = _
  simp only [eqP, toPS, toP, Option.bind_some, sh_bl, Bool.and_self, if_true, Option.map_some, PyData.eqv]
  cases a <;> cases b <;> rfl, q⟩
theorem w_neb {a b : Bool} (q : Q (.bl (!decide (a = b))) S) : w2 cNe (.bl a) (.bl b) S Q := ⟨_, _, by
  show (eqP S (.bl a) (.bl b)).map _ = _
  simp only [eqP, toPS, toP, Option.bind_some, sh_bl, Bool.and_self, if_true, Option.map_some, PyData.eqv]
  cases a <;> cases b <;> rfl, q⟩
/-! what is walked -/
theorem wI_seq (h : wE f env S fun x S1 => wSeq x S1 QI) : wI (iSeq f) env S QI := by
  obtain ⟨x, S1, e1, h⟩ := h
  rcases h with ⟨ys, rfl, q⟩ | ⟨l, ys, rfl, e2, q⟩
  · exact ⟨⟨ys, []⟩, S1, by unfold iSeq; rw [e1]; rfl, q⟩
  · exact ⟨⟨ys, [(l, .lst ys)]⟩, S1, by unfold iSeq; rw [e1, Option.bind_some]; simp only; rw [e2], q⟩
theorem wSeq_t (h : asT x = some xs) (q : QI xs [] S) : wSeq x S QI := by
  cases x with
  | tup us => exact .inl ⟨us, rfl, by rw [Option.some.inj h]; exact q⟩
  | _ => cases h
theorem wI_zip2 (h : wA a env S fun xs S1 => wZip xs S1 QI) : wI (iZip a) env S QI := by
  obtain ⟨x, S1, e1, h⟩ := h
  rcases h with ⟨us, vs, rfl, q⟩ | ⟨l, m, us, vs, rfl, e2, e3, q⟩
  · exact ⟨⟨zipD us vs, []⟩, S1, by unfold iZip; rw [e1]; rfl, q⟩
  · exact ⟨⟨zipD us vs, [(l, .lst us), (m, .lst vs)]⟩, S1, by unfold iZip; rw [e1, Option.bind_some]; simp only; rw [e2, e3], q⟩
theorem wZip_t (h1 : asT x = some xs) (h2 : asT y = some ys) (q : QI (zipD xs ys) [] S) : wZip [x, y] S QI := by
  cases x with
  | tup us =>
    cases y with
    | tup vs =>
      have e1 := Option.some.inj h1
      have e2 := Option.some.inj h2
      exact .inl ⟨us, vs, rfl, by rw [e1, e2]; exact q⟩
    | _ => cases h2
  | _ => cases h1
theorem wZip_33 {a b c a' b' c' : Rat} (q : QI [.tup [rq a, rq a'], .tup [rq b, rq b'], .tup [rq c, rq c']] [] S) : wZip [rp a b c, rp a' b' c'] S QI := wZip_t rfl rfl q
theorem wI_u (h : wA a env S fun xs S1 => QI xs [] S1) : wI (iU a) env S QI := by
  obtain ⟨x, S1, e1, q⟩ := h
  exact ⟨⟨x, []⟩, S1, by unfold iU; rw [e1]; rfl, q⟩
theorem wI_r1 (h : wE f env S fun x S1 => ∃ n : Int, x = .int n ∧ (-1000000 ≤ n ∧ n ≤ 1000000) ∧ QI (rngs 0 n.toNat) [] S1) : wI (iRange1 f) env S QI := by
  obtain ⟨x, S1, e1, n, rfl, hn, q⟩ := h
  exact ⟨⟨rngs 0 n.toNat, []⟩, S1, by unfold iRange1; rw [e1, Option.bind_some]; simp only; rw [if_pos (by omega)], q⟩
theorem wI_rc {n : Int} (q : QI (rngs 0 n.toNat) [] S) (hn : -1000000 ≤ n ∧ n ≤ 1000000 := by decide) : wI (iRange1 (eC (.int n))) env S QI :=
  wI_r1 (w_c ⟨n, rfl, hn, q⟩)
theorem wI_r3 (q : QI [.int 0, .int 1, .int 2] [] S) : wI (iRange1 (eC (.int 3))) env S QI := wI_rc q
end
end ML

namespace ML
open PySem PySem.Spec PyProof.Rows L2
noncomputable def p_common_part : Fn := mkFn 2 2 (sCons (sPar 0 1 (aCons (eCall bAbs (aCons (eVar 0) aNil)) (aCons (eCall bAbs (aCons (eVar 1) aNil)) aNil))) (sCons (sWhile (tTru (eVar 1)) (sCons (sPar 0 1 (aCons (eVar 1) (aCons (eOp gMod (eVar 0) (eVar 1)) aNil))) sNil)) (sCons (sRet (eVar 0)) sNil)))
noncomputable def p_frac : Fn := mkFn 2 3 (sCons (sAsg (eCall p_common_part (aCons (eVar 0) (aCons (eVar 1) aNil))) (ML.gName 2)) (sCons (sIf (asB (eOp cLt (eVar 1) (eC (.int 0)))) (sCons (sAsg (eUn gNeg (eVar 2)) (ML.gName 2)) sNil) sNil) (sCons (sRet (eTup (aCons (eOp gFdiv (eVar 0) (eVar 2)) (aCons (eOp gFdiv (eVar 1) (eVar 2)) aNil)))) sNil)))
noncomputable def p_plus : Fn := mkFn 2 2 (sCons (sRet (eCall p_frac (aCons (eOp gAdd (eOp gMul (eOp gIx (eVar 0) (eC (.int 0))) (eOp gIx (eVar 1) (eC (.int 1)))) (eOp gMul (eOp gIx (eVar 1) (eC (.int 0))) (eOp gIx (eVar 0) (eC (.int 1))))) (aCons (eOp gMul (eOp gIx (eVar 0) (eC (.int 1))) (eOp gIx (eVar 1) (eC (.int 1)))) aNil)))) sNil)
noncomputable def p_minus : Fn := mkFn 2 2 (sCons (sRet (eCall p_frac (aCons (eOp gSub (eOp gMul (eOp gIx (eVar 0) (eC (.int 0))) (eOp gIx (eVar 1) (eC (.int 1)))) (eOp gMul (eOp gIx (eVar 1) (eC (.int 0))) (eOp gIx (eVar 0) (eC (.int 1))))) (aCons (eOp gMul (eOp gIx (eVar 0) (eC (.int 1))) (eOp gIx (eVar 1) (eC (.int 1)))) aNil)))) sNil)
noncomputable def p_times : Fn := mkFn 2 2 (sCons (sRet (eCall p_frac (aCons (eOp gMul (eOp gIx (eVar 0) (eC (.int 0))) (eOp gIx (eVar 1) (eC (.int 0)))) (aCons (eOp gMul (eOp gIx (eVar 0) (eC (.int 1))) (eOp gIx (eVar 1) (eC (.int 1)))) aNil)))) sNil)
noncomputable def p_sign : Fn := mkFn 1 1 (sCons (sRet (eOp gSub (eCall bInt (aCons (eOp cGt (eOp gIx (eVar 0) (eC (.int 0))) (eC (.int 0))) aNil)) (eCall bInt (aCons (eOp cLt (eOp gIx (eVar 0) (eC (.int 0))) (eC (.int 0))) aNil)))) sNil)
noncomputable def p_square : Fn := mkFn 1 1 (sCons (sRet (eCall p_times (aCons (eVar 0) (aCons (eVar 0) aNil)))) sNil)
noncomputable def p_sign_of_root : Fn := mkFn 3 5 (sCons (sAsg (eCall p_sign (aCons (eVar 0) aNil)) (ML.gName 3)) (sCons (sAsg (eOp gMul (eCall p_sign (aCons (eVar 1) aNil)) (eCall p_sign (aCons (eVar 2) aNil))) (ML.gName 4)) (sCons (sIf (ML.tOr (asB (eOp cEq (eVar 3) (eVar 4))) (asB (eOp cEq (eVar 4) (eC (.int 0))))) (sCons (sRet (eVar 3)) sNil) sNil) (sCons (sIf (asB (eOp cEq (eVar 3) (eC (.int 0)))) (sCons (sRet (eVar 4)) sNil) sNil) (sCons (sRet (eOp gMul (eVar 3) (eCall p_sign (aCons (eCall p_minus (aCons (eCall p_square (aCons (eVar 0) aNil)) (aCons (eCall p_times (aCons (eCall p_square (aCons (eVar 1) aNil)) (aCons (eVar 2) aNil))) aNil))) aNil)))) sNil)))))
noncomputable def p_sign_of_two : Fn := mkFn 4 6 (sCons (sAsg (eOp gMul (eCall p_sign (aCons (eVar 0) aNil)) (eCall p_sign (aCons (eVar 1) aNil))) (ML.gName 4)) (sCons (sAsg (eOp gMul (eCall p_sign (aCons (eVar 2) aNil)) (eCall p_sign (aCons (eVar 3) aNil))) (ML.gName 5)) (sCons (sIf (ML.tOr (asB (eOp cEq (eVar 4) (eVar 5))) (asB (eOp cEq (eVar 5) (eC (.int 0))))) (sCons (sRet (eVar 4)) sNil) sNil) (sCons (sIf (asB (eOp cEq (eVar 4) (eC (.int 0)))) (sCons (sRet (eVar 5)) sNil) sNil) (sCons (sRet (eOp gMul (eVar 4) (eCall p_sign (aCons (eCall p_minus (aCons (eCall p_times (aCons (eCall p_square (aCons (eVar 0) aNil)) (aCons (eVar 1) aNil))) (aCons (eCall p_times (aCons (eCall p_square (aCons (eVar 2) aNil)) (aCons (eVar 3) aNil))) aNil))) aNil)))) sNil)))))
noncomputable def p_sign_of_sum : Fn := mkFn 5 9 (sCons (sAsg (eCall p_sign (aCons (eVar 0) aNil)) (ML.gName 5)) (sCons (sAsg (eCall p_sign_of_two (aCons (eVar 1) (aCons (eVar 2) (aCons (eVar 3) (aCons (eVar 4) aNil))))) (ML.gName 6)) (sCons (sIf (ML.tOr (asB (eOp cEq (eVar 5) (eVar 6))) (asB (eOp cEq (eVar 6) (eC (.int 0))))) (sCons (sRet (eVar 5)) sNil) sNil) (sCons (sIf (asB (eOp cEq (eVar 5) (eC (.int 0)))) (sCons (sRet (eVar 6)) sNil) sNil) (sCons (sAsg (eCall p_minus (aCons (eCall p_square (aCons (eVar 0) aNil)) (aCons (eCall p_plus (aCons (eCall p_times (aCons (eCall p_square (aCons (eVar 1) aNil)) (aCons (eVar 2) aNil))) (aCons (eCall p_times (aCons (eCall p_square (aCons (eVar 3) aNil)) (aCons (eVar 4) aNil))) aNil))) aNil))) (ML.gName 7)) (sCons (sAsg (eCall p_times (aCons (eTup (aCons (eUn gNeg (eC (.int 2))) (aCons (eC (.int 1)) aNil))) (aCons (eCall p_times (aCons (eVar 1) (aCons (eVar 3) aNil))) aNil))) (ML.gName 8)) (sCons (sRet (eOp gMul (eVar 5) (eCall p_sign_of_root (aCons (eVar 7) (aCons (eVar 8) (aCons (eCall p_times (aCons (eVar 2) (aCons (eVar 4) aNil))) aNil)))))) sNil)))))))
noncomputable def p_compare : Fn := mkFn 2 8 (sCons (sAsg (eTup (aCons (eVar 0) (aCons (eVar 1) aNil))) (ML.gTup 2 (ML.gCons (ML.gTup 3 (ML.gCons (ML.gName 2) (ML.gCons (ML.gName 3) (ML.gCons (ML.gName 4) ML.gNil)))) (ML.gCons (ML.gTup 3 (ML.gCons (ML.gName 5) (ML.gCons (ML.gName 6) (ML.gCons (ML.gName 7) ML.gNil)))) ML.gNil)))) (sCons (sRet (eCall p_sign_of_sum (aCons (eCall p_minus (aCons (eVar 2) (aCons (eVar 5) aNil))) (aCons (eVar 3) (aCons (eVar 4) (aCons (eCall p_minus (aCons (eC (.tup [.int 0, .int 1])) (aCons (eVar 6) aNil))) (aCons (eVar 7) aNil))))))) sNil))
end ML

namespace ML
open PySem PySem.Spec PyProof.Rows L2
local macro_rules | `(tactic| infer_instance) => `(tactic| with_reducible first
  | refine w_scons ?_ | refine kC_nx ?_ | refine kC_rt ?_ | refine w_asg ?_ | refine w_op ?_ | refine w_var (by with_unfolding_all rfl) ?_ | refine w_c0 ?_ | refine w_c1 ?_ | refine w_c ?_ | refine w_call ?_ | refine w_acons ?_ | refine w_anil ?_
  | (apply w_gname; (focus (repeat (first | exact SetR.z | apply SetR.s)))) | refine w_tup2 ?_ | refine wTup_p ?_ | refine wTup_q0 ?_ | refine wTup_q1 ?_ | refine wTup_q2 ?_ | refine wTup_qm1 ?_ | refine wTup_qm2 ?_ | refine wTup_q _ ?_ | refine wTup_any ?_ (by with_unfolding_all exact Nat.le_of_ble_eq_true rfl) | refine w_len ?_ (by with_unfolding_all exact Nat.le_of_ble_eq_true rfl) | refine w_ret ?_ | refine w_sif ?_ | refine w_asB ?_ | refine kAB_bl ?_ | refine w_snil ?_ | refine w_for ?_ | refine w_tru ?_
  | refine wTru_bl ?_ | refine wTru_int ?_ | refine wTru_non ?_ | refine w_tand ?_ | refine w_tor ?_ | refine w_tnot ?_ | refine w_eif ?_ | refine w_eand ?_ | refine w_eor ?_ | refine w_enot ?_ | refine w_un ?_
  | refine w_gtup (by with_unfolding_all rfl) ?_ | refine w_gtupT (by with_unfolding_all rfl) (by with_unfolding_all rfl) ?_ | refine w_gnil ?_ | refine w_gcons ?_ | refine w_par ?_ | (apply kP_2; (focus (repeat (first | exact SetR.z | apply SetR.s))); (focus (repeat (first | exact SetR.z | apply SetR.s))))
  | refine w_par3 ?_ | (apply kP3_3; (focus (repeat (first | exact SetR.z | apply SetR.s))); (focus (repeat (first | exact SetR.z | apply SetR.s))); (focus (repeat (first | exact SetR.z | apply SetR.s))))
  | refine w_own ?_ | refine w_ulst ?_ | refine w_uix ?_ | refine w_u ?_ | refine w_asgU ?_ | refine w_expr ?_ | refine w_retN ?_ | (apply w_ulc; (focus (repeat (first | exact WipeR.z | apply WipeR.s | exact NoneR.z | apply NoneR.s)))) | refine w_aug (by with_unfolding_all rfl) ?_ | refine w_mt ?_
  | refine w_add ?_ | refine w_addI ?_ | refine w_sub ?_ | refine w_neg ?_ | refine w_cmp ?_ | refine w_eqi ?_ | refine w_nei ?_ | refine w_eqq ?_ | refine w_neq ?_ | refine w_eqb ?_ | refine w_neb ?_ | refine w_isNN ?_ | refine w_isnNN ?_
  | refine w_ixq0 ?_ | refine w_ixq1 ?_ | refine w_ixp0 ?_ | refine w_ixp1 ?_ | refine w_ixp2 ?_ | refine w_ix0 ?_ | refine w_ix1 ?_ | refine w_ix2 ?_ | refine w_ix3 ?_
  | refine w_isN (by with_unfolding_all rfl) ?_ | refine w_isnN (by with_unfolding_all rfl) ?_
  | refine w_int ?_ | refine w_intb ?_ | refine w_abs ?_ | refine w_max ?_ | refine w_min ?_ | refine w_lent ?_ | refine w_tupUp ?_ | refine w_tupU ?_ | refine w_lenU ?_ | refine w_tupt ?_ | refine w_tyes ?_ | refine w_bk ?_ | refine w_ct ?_
  | refine wB_t ?_ | refine wB_f ?_ | refine wB_not ?_ | refine kL_nx ?_ | refine kL_ct ?_ | refine kL_bk ?_ | refine kL_rt ?_ | refine wI_u ?_
  | refine w_gtupL (by with_unfolding_all rfl) ?_ | refine w_put ?_ | refine w_sl ?_ | refine w_onone ?_ | refine w_pow18 ?_ | refine wSl_t ?_ | refine w_uli ?_ | refine wLi_t ?_ | refine wI_r3 ?_ | refine wI_seq ?_ | refine wI_zip2 ?_ | refine wZip_33 ?_ | refine wZip_t (by with_unfolding_all rfl) (by with_unfolding_all rfl) ?_ | refine wSeq_t (by with_unfolding_all rfl) ?_ | refine w_eqpp ?_ | refine w_rnil srcOk_nil ?_ | refine w_lcons srcOk_nil (by with_unfolding_all exact Nat.le_of_ble_eq_true rfl) ?_ | (apply w_lnil2 srcOk_nil; (focus ((try simp only [List.nil_append, List.cons_append]); rfl)))
  | refine w_isi (by with_unfolding_all rfl) (by first | exact kit_tt | exact kit_it | exact kit_bt | exact kit_st | exact kit_lt | exact kit_nt | exact kit_ii | exact kit_bi | exact kit_ti | exact kit_si | exact kit_ni | exact kit_ib | exact kit_bb | exact kit_tb | exact kit_sb | exact kit_nb | exact kit_ss | exact kit_is | exact kit_bs | exact kit_ts | exact kit_ns | exact kit_tl | exact kit_ll | exact kit_il | exact kit_nl) ?_)
local macro_rules | `(tactic| contradiction) => `(tactic| (repeat infer_instance))
local macro_rules | `(tactic| trivial) => `(tactic| (apply w_mk; (focus ((repeat (first | apply InitR.s | apply InitR.z)); repeat (first | exact RepR.z | apply RepR.s))); (focus rfl); contradiction))

/-! ### the dialect of _law_pick -/
/-- what stood stands, but for the place q -/
def Ex (q : Nat) (S S' : Sto) : Prop := S.length ≤ S'.length ∧ ∀ l, l ≠ q → l < S.length → S'[l]? = S[l]?
theorem Ex.refl (q : Nat) (S : Sto) : Ex q S S := ⟨Nat.le_refl _, fun _ _ _ => rfl⟩
theorem Ex.trans {q : Nat} {S S1 S2 : Sto} (a : Ex q S S1) (b : Ex q S1 S2) : Ex q S S2 := ⟨Nat.le_trans a.1 b.1, fun l h1 h2 => (b.2 l h1 (Nat.lt_of_lt_of_le h2 a.1)).trans (a.2 l h1 h2)⟩
theorem Same.ex {q : Nat} {S S' : Sto} (a : Same q S S') : Ex q S S' := ⟨Nat.le_of_eq a.1.symm, fun l h _ => a.2 l h⟩
theorem Ex.set {q l : Nat} {S S' : Sto} {o : Ob} (a : Ex q S S') (h : S.length ≤ l) : Ex q S (S'.set l o) := ⟨by rw [List.length_set]; exact a.1, fun k h1 h2 => by rw [List.getElem?_set_ne (by omega)]; exact a.2 k h1 h2⟩
theorem Ex.get {q l : Nat} {S S' : Sto} {o : Ob} (a : Ex q S S') (h : S[l]? = some o) (hl : l ≠ q) : S'[l]? = some o := (a.2 l hl (List.getElem?_eq_some_iff.mp h).1).trans h
theorem take_all {n : Nat} {S : Sto} (h : ∀ l o, l < n → S[l]? = some o → o.bel n = true) : ((S.take n).all fun o => o.bel n) = true := by
  rw [List.all_eq_true]
  intro o ho
  obtain ⟨l, hl, e⟩ := List.getElem_of_mem ho
  have hl2 : l < n := by
    have := hl
    rw [List.length_take] at this
    omega
  refine h l o hl2 ?_
  rw [← take_get hl2, List.getElem?_eq_getElem hl, e]
theorem Nx.drop {p q n m : Nat} {S S' : Sto} {d : D} (h : Nx p q n S) (h' : Nx p q m S') (hs : Ex q S S') (hd : d.bel S.length = true) : gc S.length d S' = (d, S'.take S.length) ∧ Nx p q m (S'.take S.length) ∧ Same q S (S'.take S.length) := by
  obtain ⟨wf, ⟨nums, i, r, s, h1, h2, h3⟩, ne⟩ := h'
  obtain ⟨hp, hq⟩ := h.lt
  have key : ∀ l o, l < S.length → S'[l]? = some o → o.bel S.length = true := by
    intro l o hl e
    by_cases c : l = q
    · subst c
      rw [h2] at e
      cases e
      simp [Ob.bel, D.belL, D.bel, hp]
    · rw [hs.2 l c hl] at e
      exact h.wf o (List.mem_of_getElem? e)
  have len : (S'.take S.length).length = S.length := by rw [List.length_take]; have := hs.1; omega
  refine ⟨by unfold gc; rw [hd, take_all key]; rfl, ⟨fun o ho => ?_, ⟨nums, i, r, s, by rw [take_get hp]; exact h1, by rw [take_get hq]; exact h2, h3⟩, ne⟩, len, fun l hl => ?_⟩
  · rw [len]
    obtain ⟨l, hl, e⟩ := List.getElem_of_mem ho
    have hl2 : l < S.length := by omega
    exact key l o hl2 (by rw [← take_get hl2, List.getElem?_eq_getElem hl, e])
  · by_cases c : l < S.length
    · rw [take_get c]; exact hs.2 l hl c
    · rw [List.getElem?_eq_none (by omega), List.getElem?_eq_none (by omega)]
/-! the program's own -/
/-! draws -/
/-! alike -/
end ML

namespace Cl
open PySem PySem.Spec PyProof.Rows L2 ML
def top (i : Nat) : Stmt := PySem.Challenge.pw_scenetongue_k04_roots_compared.main.body.getD i (.Pass ⟨0, 0, 0, 0⟩)
abbrev s_common_part : Stmt := top 1
theorem sc_common_part : FnScope ["one", "other"] ["one", "other"] (defScope s_common_part) := ⟨rfl, rfl, rfl, by decide +kernel, rfl, by decide +kernel, by decide +kernel⟩
noncomputable abbrev d_common_part : Fn := p_common_part
abbrev s_frac : Stmt := top 2
theorem sc_frac : FnScope ["above", "below", "part"] ["above", "below"] (defScope s_frac) := ⟨rfl, rfl, rfl, by decide +kernel, rfl, by decide +kernel, by decide +kernel⟩
noncomputable abbrev d_frac : Fn := p_frac
abbrev s_plus : Stmt := top 3
theorem sc_plus : FnScope ["one", "other"] ["one", "other"] (defScope s_plus) := ⟨rfl, rfl, rfl, by decide +kernel, rfl, by decide +kernel, by decide +kernel⟩
noncomputable abbrev d_plus : Fn := p_plus
abbrev s_minus : Stmt := top 4
theorem sc_minus : FnScope ["one", "other"] ["one", "other"] (defScope s_minus) := ⟨rfl, rfl, rfl, by decide +kernel, rfl, by decide +kernel, by decide +kernel⟩
noncomputable abbrev d_minus : Fn := p_minus
abbrev s_times : Stmt := top 5
theorem sc_times : FnScope ["one", "other"] ["one", "other"] (defScope s_times) := ⟨rfl, rfl, rfl, by decide +kernel, rfl, by decide +kernel, by decide +kernel⟩
noncomputable abbrev d_times : Fn := p_times
abbrev s_sign : Stmt := top 6
theorem sc_sign : FnScope ["one"] ["one"] (defScope s_sign) := ⟨rfl, rfl, rfl, by decide +kernel, rfl, by decide +kernel, by decide +kernel⟩
noncomputable abbrev d_sign : Fn := p_sign
abbrev s_square : Stmt := top 9
theorem sc_square : FnScope ["one"] ["one"] (defScope s_square) := ⟨rfl, rfl, rfl, by decide +kernel, rfl, by decide +kernel, by decide +kernel⟩
noncomputable abbrev d_square : Fn := p_square
abbrev s_sign_of_root : Stmt := top 10
theorem sc_sign_of_root : FnScope ["p", "q", "d", "here", "there"] ["p", "q", "d"] (defScope s_sign_of_root) := ⟨rfl, rfl, rfl, by decide +kernel, rfl, by decide +kernel, by decide +kernel⟩
noncomputable abbrev d_sign_of_root : Fn := p_sign_of_root
abbrev s_sign_of_two : Stmt := top 11
theorem sc_sign_of_two : FnScope ["q", "d", "r", "e", "here", "there"] ["q", "d", "r", "e"] (defScope s_sign_of_two) := ⟨rfl, rfl, rfl, by decide +kernel, rfl, by decide +kernel, by decide +kernel⟩
noncomputable abbrev d_sign_of_two : Fn := p_sign_of_two
abbrev s_sign_of_sum : Stmt := top 12
theorem sc_sign_of_sum : FnScope ["p", "q", "d", "r", "e", "here", "there", "plain", "mixed"] ["p", "q", "d", "r", "e"] (defScope s_sign_of_sum) := ⟨rfl, rfl, rfl, by decide +kernel, rfl, by decide +kernel, by decide +kernel⟩
noncomputable abbrev d_sign_of_sum : Fn := p_sign_of_sum
abbrev s_compare : Stmt := top 13
theorem sc_compare : FnScope ["one", "other", "p", "q", "d", "s", "r", "e"] ["one", "other"] (defScope s_compare) := ⟨rfl, rfl, rfl, by decide +kernel, rfl, by decide +kernel, by decide +kernel⟩
noncomputable abbrev d_compare : Fn := p_compare
abbrev s__law_cell : Stmt := top 15
theorem sc__law_cell : FnScope ["_law_script", "_law_k"] ["_law_script", "_law_k"] (defScope s__law_cell) := ⟨rfl, rfl, rfl, by decide +kernel, rfl, by decide +kernel, by decide +kernel⟩
noncomputable def d__law_cell : Fn := mkFn 2 2 (sCons (sIf (asB (eOp cEq (eCall bLen (aCons (eVar 0) aNil)) (eC (.int 0)))) (sCons (sRet (eOp gAdd (eOp gMul (eC (.int 7)) (eVar 1)) (eC (.int 3)))) sNil) sNil) (sCons (sRet (eCall bAbs (aCons (eOp gIx (eVar 0) (eOp gMod (eVar 1) (eCall bLen (aCons (eVar 0) aNil)))) aNil))) sNil))
abbrev s__law_mixed : Stmt := top 16
theorem sc__law_mixed : FnScope ["_law_script", "_law_k", "_law_many", "_law_number_here"] ["_law_script", "_law_k", "_law_many"] (defScope s__law_mixed) := ⟨rfl, rfl, rfl, by decide +kernel, rfl, by decide +kernel, by decide +kernel⟩
noncomputable def d__law_mixed : Fn := mkFn 3 4 (sCons (sAsg (eOp gMod (eOp gPow (eOp gAdd (eOp gMul (eOp gAdd (eOp gMod (eCall d__law_cell (aCons (eVar 0) (aCons (eVar 1) aNil))) (eC (.int 1000003))) (eC (.int 5))) (eOp gAdd (eVar 1) (eC (.int 2)))) (eOp gMul (eC (.int 7919)) (eVar 1))) (eC (.int 5))) (eC (.int 2147483647))) (ML.gName 3)) (sCons (sRet (eOp gMod (eOp gFdiv (eVar 3) (eC (.int 13))) (eVar 2))) sNil))
abbrev s__law_deck : Stmt := top 17
theorem sc__law_deck : FnScope ["_law_script", "_law_part"] ["_law_script"] (defScope s__law_deck) := ⟨rfl, rfl, rfl, by decide +kernel, rfl, by decide +kernel, by decide +kernel⟩
noncomputable def d__law_deck : Fn := mkFn 1 2 (sCons (sRet (eOwn (uLst (aCons (eVar 0) (aCons (eOwn (uLc (iSeq (eVar 0)) (ML.gName 1) (asB (eOp cGe (eCall bAbs (aCons (eVar 1) aNil)) (eOp gPow (eC (.int 10)) (eC (.int 18))))) (eCall bAbs (aCons (eVar 1) aNil)) [1])) (aCons (eC (.int 0)) (aCons (eC (.int 0)) aNil))))))) sNil)
abbrev s__law_take : Stmt := top 18
theorem sc__law_take : FnScope ["_law_deck_here", "_law_many", "_law_part"] ["_law_deck_here", "_law_many"] (defScope s__law_take) := ⟨rfl, rfl, rfl, by decide +kernel, rfl, by decide +kernel, by decide +kernel⟩
noncomputable def d__law_take : Fn := mkFn 2 3 (sCons (sWhile (asB (eOp cLt (eOp gIx (eVar 0) (eC (.int 2))) (eCall bLen (aCons (eOp gIx (eVar 0) (eC (.int 1))) aNil)))) (sCons (sAsg (eOp gIx (eOp gIx (eVar 0) (eC (.int 1))) (eOp gIx (eVar 0) (eC (.int 2)))) (ML.gName 2)) (sCons (sIf (asB (eOp cGt (eVar 2) (eC (.int 0)))) (sCons (sAsg (eOp gFdiv (eVar 2) (eVar 1)) (gPut (eOp gIx (eVar 0) (eC (.int 1))) (eOp gIx (eVar 0) (eC (.int 2))))) (sCons (sRet (eOp gMod (eVar 2) (eVar 1))) sNil)) sNil) (sCons (sAsg (eOp gAdd (eOp gIx (eVar 0) (eC (.int 2))) (eC (.int 1))) (gPut (eVar 0) (eC (.int 2)))) sNil)))) (sCons (sAsg (eOp gAdd (eOp gIx (eVar 0) (eC (.int 3))) (eC (.int 1))) (gPut (eVar 0) (eC (.int 3)))) (sCons (sRet (eCall d__law_mixed (aCons (eOp gIx (eVar 0) (eC (.int 0))) (aCons (eOp gIx (eVar 0) (eC (.int 3))) (aCons (eVar 1) aNil))))) sNil)))
abbrev s__law_gcd : Stmt := top 19
theorem sc__law_gcd : FnScope ["_law_one", "_law_other_here"] ["_law_one", "_law_other_here"] (defScope s__law_gcd) := ⟨rfl, rfl, rfl, by decide +kernel, rfl, by decide +kernel, by decide +kernel⟩
noncomputable def d__law_gcd : Fn := mkFn 2 2 (sCons (sAsg (eCall bAbs (aCons (eVar 0) aNil)) (ML.gName 0)) (sCons (sAsg (eCall bAbs (aCons (eVar 1) aNil)) (ML.gName 1)) (sCons (sWhile (asB (eOp cGt (eVar 1) (eC (.int 0)))) (sCons (sPar 0 1 (aCons (eVar 1) (aCons (eOp gMod (eVar 0) (eVar 1)) aNil))) sNil)) (sCons (sRet (eVar 0)) sNil))))
abbrev s__law_share : Stmt := top 20
theorem sc__law_share : FnScope ["_law_top", "_law_bottom", "_law_part"] ["_law_top", "_law_bottom"] (defScope s__law_share) := ⟨rfl, rfl, rfl, by decide +kernel, rfl, by decide +kernel, by decide +kernel⟩
noncomputable def d__law_share : Fn := mkFn 2 3 (sCons (sAsg (eCall d__law_gcd (aCons (eVar 0) (aCons (eVar 1) aNil))) (ML.gName 2)) (sCons (sIf (asB (eOp cLt (eVar 1) (eC (.int 0)))) (sCons (sAsg (eUn gNeg (eVar 2)) (ML.gName 2)) sNil) sNil) (sCons (sRet (eTup (aCons (eOp gFdiv (eVar 0) (eVar 2)) (aCons (eOp gFdiv (eVar 1) (eVar 2)) aNil)))) sNil)))
abbrev s__law_plus : Stmt := top 21
theorem sc__law_plus : FnScope ["_law_one", "_law_other_here"] ["_law_one", "_law_other_here"] (defScope s__law_plus) := ⟨rfl, rfl, rfl, by decide +kernel, rfl, by decide +kernel, by decide +kernel⟩
noncomputable def d__law_plus : Fn := mkFn 2 2 (sCons (sRet (eCall d__law_share (aCons (eOp gAdd (eOp gMul (eOp gIx (eVar 0) (eC (.int 0))) (eOp gIx (eVar 1) (eC (.int 1)))) (eOp gMul (eOp gIx (eVar 1) (eC (.int 0))) (eOp gIx (eVar 0) (eC (.int 1))))) (aCons (eOp gMul (eOp gIx (eVar 0) (eC (.int 1))) (eOp gIx (eVar 1) (eC (.int 1)))) aNil)))) sNil)
abbrev s__law_times : Stmt := top 22
theorem sc__law_times : FnScope ["_law_one", "_law_other_here"] ["_law_one", "_law_other_here"] (defScope s__law_times) := ⟨rfl, rfl, rfl, by decide +kernel, rfl, by decide +kernel, by decide +kernel⟩
noncomputable def d__law_times : Fn := mkFn 2 2 (sCons (sRet (eCall d__law_share (aCons (eOp gMul (eOp gIx (eVar 0) (eC (.int 0))) (eOp gIx (eVar 1) (eC (.int 0)))) (aCons (eOp gMul (eOp gIx (eVar 0) (eC (.int 1))) (eOp gIx (eVar 1) (eC (.int 1)))) aNil)))) sNil)
abbrev s__law_figures : Stmt := top 23
theorem sc__law_figures : FnScope ["_law_deck_here", "_law_kind"] ["_law_deck_here"] (defScope s__law_figures) := ⟨rfl, rfl, rfl, by decide +kernel, rfl, by decide +kernel, by decide +kernel⟩
noncomputable def d__law_figures : Fn := mkFn 1 2 (sCons (sAsg (eCall d__law_take (aCons (eVar 0) (aCons (eC (.int 4)) aNil))) (ML.gName 1)) (sCons (sIf (asB (eOp cLt (eVar 1) (eC (.int 2)))) (sCons (sRet (eCall d__law_take (aCons (eVar 0) (aCons (eC (.int 12)) aNil)))) sNil) sNil) (sCons (sIf (asB (eOp cEq (eVar 1) (eC (.int 2)))) (sCons (sRet (eOp gAdd (eOp gMul (eCall d__law_take (aCons (eVar 0) (aCons (eC (.int 1000)) aNil))) (eC (.int 1000))) (eCall d__law_take (aCons (eVar 0) (aCons (eC (.int 1000)) aNil))))) sNil) sNil) (sCons (sRet (eOp gSub (eC (.int 999999)) (eCall d__law_take (aCons (eVar 0) (aCons (eC (.int 3)) aNil))))) sNil))))
abbrev s__law_fraction : Stmt := top 24
theorem sc__law_fraction : FnScope ["_law_deck_here", "_law_top"] ["_law_deck_here"] (defScope s__law_fraction) := ⟨rfl, rfl, rfl, by decide +kernel, rfl, by decide +kernel, by decide +kernel⟩
noncomputable def d__law_fraction : Fn := mkFn 1 2 (sCons (sAsg (eOp gMul (eCall d__law_figures (aCons (eVar 0) aNil)) (eOp gSub (eC (.int 1)) (eOp gMul (eC (.int 2)) (eCall d__law_take (aCons (eVar 0) (aCons (eC (.int 2)) aNil)))))) (ML.gName 1)) (sCons (sRet (eCall d__law_share (aCons (eVar 1) (aCons (eCall bMax (aCons (eC (.int 1)) (aCons (eUIx (uLst (aCons (eC (.int 1)) (aCons (eCall d__law_figures (aCons (eVar 0) aNil)) aNil))) (eCall d__law_take (aCons (eVar 0) (aCons (eC (.int 2)) aNil)))) aNil))) aNil)))) sNil))
abbrev s__law_whole_root : Stmt := top 25
theorem sc__law_whole_root : FnScope ["_law_number_here", "_law_found"] ["_law_number_here"] (defScope s__law_whole_root) := ⟨rfl, rfl, rfl, by decide +kernel, rfl, by decide +kernel, by decide +kernel⟩
noncomputable def d__law_whole_root : Fn := mkFn 1 2 (sCons (sAsg (eC (.int 1)) (ML.gName 1)) (sCons (sWhile (asB (eOp cLe (eOp gMul (eVar 1) (eVar 1)) (eVar 0))) (sCons (sAsg (eOp gMul (eVar 1) (eC (.int 2))) (ML.gName 1)) sNil)) (sCons (sWhile (asB (eOp cGt (eOp gMul (eVar 1) (eVar 1)) (eVar 0))) (sCons (sAsg (eOp gFdiv (eOp gAdd (eVar 1) (eOp gFdiv (eVar 0) (eVar 1))) (eC (.int 2))) (ML.gName 1)) sNil)) (sCons (sRet (eVar 1)) sNil))))
abbrev s__law_plain_root : Stmt := top 26
theorem sc__law_plain_root : FnScope ["_law_one", "_law_top", "_law_bottom"] ["_law_one"] (defScope s__law_plain_root) := ⟨rfl, rfl, rfl, by decide +kernel, rfl, by decide +kernel, by decide +kernel⟩
noncomputable def d__law_plain_root : Fn := mkFn 1 3 (sCons (sAsg (eCall d__law_whole_root (aCons (eOp gIx (eVar 0) (eC (.int 0))) aNil)) (ML.gName 1)) (sCons (sAsg (eCall d__law_whole_root (aCons (eOp gIx (eVar 0) (eC (.int 1))) aNil)) (ML.gName 2)) (sCons (sIf (ML.tOr (asB (eOp cNe (eOp gMul (eVar 1) (eVar 1)) (eOp gIx (eVar 0) (eC (.int 0))))) (asB (eOp cNe (eOp gMul (eVar 2) (eVar 2)) (eOp gIx (eVar 0) (eC (.int 1)))))) (sCons (sRet (eC .non)) sNil) sNil) (sCons (sRet (eCall d__law_share (aCons (eVar 1) (aCons (eVar 2) aNil)))) sNil))))
abbrev s__law_form : Stmt := top 27
theorem sc__law_form : FnScope ["_law_number_here", "_law_p", "_law_q", "_law_d", "_law_size", "_law_way", "_law_plain"] ["_law_number_here"] (defScope s__law_form) := ⟨rfl, rfl, rfl, by decide +kernel, rfl, by decide +kernel, by decide +kernel⟩
noncomputable def d__law_form : Fn := mkFn 1 7 (sCons (sAsg (eVar 0) (ML.gTup 3 (ML.gCons (ML.gName 1) (ML.gCons (ML.gName 2) (ML.gCons (ML.gName 3) ML.gNil))))) (sCons (sAsg (eCall d__law_times (aCons (eCall d__law_times (aCons (eVar 2) (aCons (eVar 2) aNil))) (aCons (eVar 3) aNil))) (ML.gName 4)) (sCons (sAsg (eOp gSub (eCall bInt (aCons (eOp cGt (eOp gIx (eVar 2) (eC (.int 0))) (eC (.int 0))) aNil)) (eCall bInt (aCons (eOp cLt (eOp gIx (eVar 2) (eC (.int 0))) (eC (.int 0))) aNil))) (ML.gName 5)) (sCons (sAsg (eCall d__law_plain_root (aCons (eVar 4) aNil)) (ML.gName 6)) (sCons (sIf (asB (eOp cIsNot (eVar 6) (eC .non))) (sCons (sRet (eTup (aCons (eCall d__law_plus (aCons (eVar 1) (aCons (eCall d__law_times (aCons (eTup (aCons (eVar 5) (aCons (eC (.int 1)) aNil))) (aCons (eVar 6) aNil))) aNil))) (aCons (eC (.int 0)) (aCons (eTup (aCons (eC (.int 0)) (aCons (eC (.int 1)) aNil))) aNil))))) sNil) sNil) (sCons (sRet (eTup (aCons (eVar 1) (aCons (eVar 5) (aCons (eVar 4) aNil))))) sNil))))))
abbrev s__law_reach : Stmt := top 28
theorem sc__law_reach : FnScope ["_law_form_here", "_law_scale", "_law_p", "_law_way", "_law_size", "_law_low", "_law_root"] ["_law_form_here", "_law_scale"] (defScope s__law_reach) := ⟨rfl, rfl, rfl, by decide +kernel, rfl, by decide +kernel, by decide +kernel⟩
noncomputable def d__law_reach : Fn := mkFn 2 7 (sCons (sAsg (eVar 0) (ML.gTup 3 (ML.gCons (ML.gName 2) (ML.gCons (ML.gName 3) (ML.gCons (ML.gName 4) ML.gNil))))) (sCons (sAsg (eOp gFdiv (eOp gMul (eOp gIx (eVar 2) (eC (.int 0))) (eVar 1)) (eOp gIx (eVar 2) (eC (.int 1)))) (ML.gName 5)) (sCons (sAsg (eCall d__law_whole_root (aCons (eOp gFdiv (eOp gMul (eOp gMul (eOp gIx (eVar 4) (eC (.int 0))) (eVar 1)) (eVar 1)) (eOp gIx (eVar 4) (eC (.int 1)))) aNil)) (ML.gName 6)) (sCons (sIf (asB (eOp cLt (eVar 3) (eC (.int 0)))) (sCons (sRet (eTup (aCons (eOp gSub (eOp gSub (eVar 5) (eVar 6)) (eC (.int 1))) (aCons (eOp gSub (eOp gAdd (eVar 5) (eC (.int 1))) (eVar 6)) aNil)))) sNil) sNil) (sCons (sRet (eTup (aCons (eOp gAdd (eVar 5) (eOp gMul (eVar 3) (eVar 6))) (aCons (eOp gAdd (eOp gAdd (eVar 5) (eC (.int 1))) (eOp gMul (eVar 3) (eOp gAdd (eVar 6) (eC (.int 1))))) aNil)))) sNil)))))
abbrev s__law_compare : Stmt := top 29
theorem sc__law_compare : FnScope ["_law_one", "_law_other_here", "_law_first", "_law_second", "_law_scale", "_law_turn", "_law_here", "_law_there"] ["_law_one", "_law_other_here"] (defScope s__law_compare) := ⟨rfl, rfl, rfl, by decide +kernel, rfl, by decide +kernel, by decide +kernel⟩
noncomputable def d__law_compare : Fn := mkFn 2 8 (sCons (sAsg (eCall d__law_form (aCons (eVar 0) aNil)) (ML.gName 2)) (sCons (sAsg (eCall d__law_form (aCons (eVar 1) aNil)) (ML.gName 3)) (sCons (sIf (asB (eOp cEq (eVar 2) (eVar 3))) (sCons (sRet (eC (.int 0))) sNil) sNil) (sCons (sAsg (eOp gPow (eC (.int 10)) (eC (.int 8))) (ML.gName 4)) (sCons (sFor (iRange1 (eC (.int 10))) (ML.gName 5) (sCons (sAsg (eCall d__law_reach (aCons (eVar 2) (aCons (eVar 4) aNil))) (ML.gName 6)) (sCons (sAsg (eCall d__law_reach (aCons (eVar 3) (aCons (eVar 4) aNil))) (ML.gName 7)) (sCons (sIf (asB (eOp cLt (eOp gIx (eVar 6) (eC (.int 1))) (eOp gIx (eVar 7) (eC (.int 0))))) (sCons (sRet (eUn gNeg (eC (.int 1)))) sNil) sNil) (sCons (sIf (asB (eOp cLt (eOp gIx (eVar 7) (eC (.int 1))) (eOp gIx (eVar 6) (eC (.int 0))))) (sCons (sRet (eC (.int 1))) sNil) sNil) (sCons (sAsg (eOp gMul (eVar 4) (eVar 4)) (ML.gName 4)) sNil)))))) (sCons (sRet (eC (.int 2))) sNil))))))
abbrev s__law_number : Stmt := top 30
theorem sc__law_number : FnScope ["_law_deck_here", "_law_p", "_law_q", "_law_kind", "_law_side", "_law_top"] ["_law_deck_here"] (defScope s__law_number) := ⟨rfl, rfl, rfl, by decide +kernel, rfl, by decide +kernel, by decide +kernel⟩
noncomputable def d__law_number : Fn := mkFn 1 6 (sCons (sAsg (eCall d__law_fraction (aCons (eVar 0) aNil)) (ML.gName 1)) (sCons (sAsg (eCall d__law_fraction (aCons (eVar 0) aNil)) (ML.gName 2)) (sCons (sAsg (eCall d__law_take (aCons (eVar 0) (aCons (eC (.int 5)) aNil))) (ML.gName 3)) (sCons (sIf (asB (eOp cEq (eVar 3) (eC (.int 0)))) (sCons (sRet (eTup (aCons (eVar 1) (aCons (eTup (aCons (eC (.int 0)) (aCons (eC (.int 1)) aNil))) (aCons (eTup (aCons (eC (.int 0)) (aCons (eC (.int 1)) aNil))) aNil))))) sNil) sNil) (sCons (sIf (asB (eOp cEq (eVar 3) (eC (.int 1)))) (sCons (sAsg (eCall d__law_share (aCons (eCall d__law_take (aCons (eVar 0) (aCons (eC (.int 999)) aNil))) (aCons (eOp gAdd (eC (.int 1)) (eCall d__law_take (aCons (eVar 0) (aCons (eC (.int 900)) aNil)))) aNil))) (ML.gName 4)) (sCons (sRet (eTup (aCons (eVar 1) (aCons (eVar 2) (aCons (eCall d__law_times (aCons (eVar 4) (aCons (eVar 4) aNil))) aNil))))) sNil)) sNil) (sCons (sAsg (eUIx (uLst (aCons (eCall d__law_take (aCons (eVar 0) (aCons (eC (.int 30)) aNil))) (aCons (eCall d__law_figures (aCons (eVar 0) aNil)) aNil))) (eCall d__law_take (aCons (eVar 0) (aCons (eC (.int 2)) aNil)))) (ML.gName 5)) (sCons (sRet (eTup (aCons (eVar 1) (aCons (eVar 2) (aCons (eCall d__law_share (aCons (eVar 5) (aCons (eCall bMax (aCons (eC (.int 1)) (aCons (eUIx (uLst (aCons (eC (.int 1)) (aCons (eCall d__law_figures (aCons (eVar 0) aNil)) aNil))) (eCall d__law_take (aCons (eVar 0) (aCons (eC (.int 2)) aNil)))) aNil))) aNil))) aNil))))) sNil)))))))
abbrev s__law_other : Stmt := top 31
theorem sc__law_other : FnScope ["_law_deck_here", "_law_number_here", "_law_p", "_law_q", "_law_d", "_law_kind", "_law_part", "_law_form_here"] ["_law_deck_here", "_law_number_here"] (defScope s__law_other) := ⟨rfl, rfl, rfl, by decide +kernel, rfl, by decide +kernel, by decide +kernel⟩
noncomputable def d__law_other : Fn := mkFn 2 8 (sCons (sAsg (eVar 1) (ML.gTup 3 (ML.gCons (ML.gName 2) (ML.gCons (ML.gName 3) (ML.gCons (ML.gName 4) ML.gNil))))) (sCons (sAsg (eCall d__law_take (aCons (eVar 0) (aCons (eC (.int 6)) aNil))) (ML.gName 5)) (sCons (sIf (asB (eOp cLt (eVar 5) (eC (.int 2)))) (sCons (sRet (eCall d__law_number (aCons (eVar 0) aNil))) sNil) sNil) (sCons (sIf (asB (eOp cEq (eVar 5) (eC (.int 2)))) (sCons (sAsg (eCall d__law_share (aCons (eOp gAdd (eC (.int 1)) (eCall d__law_take (aCons (eVar 0) (aCons (eC (.int 30)) aNil)))) (aCons (eOp gAdd (eC (.int 1)) (eCall d__law_take (aCons (eVar 0) (aCons (eC (.int 30)) aNil)))) aNil))) (ML.gName 6)) (sCons (sRet (eTup (aCons (eVar 2) (aCons (eCall d__law_times (aCons (eVar 3) (aCons (eTup (aCons (eOp gIx (eVar 6) (eC (.int 1))) (aCons (eOp gIx (eVar 6) (eC (.int 0))) aNil))) aNil))) (aCons (eCall d__law_times (aCons (eVar 4) (aCons (eCall d__law_times (aCons (eVar 6) (aCons (eVar 6) aNil))) aNil))) aNil))))) sNil)) sNil) (sCons (sIf (asB (eOp cEq (eVar 5) (eC (.int 3)))) (sCons (sRet (eTup (aCons (eVar 2) (aCons (eTup (aCons (eOp gSub (eC (.int 1)) (eOp gMul (eC (.int 2)) (eCall bInt (aCons (eOp cLt (eOp gIx (eVar 3) (eC (.int 0))) (eC (.int 0))) aNil)))) (aCons (eC (.int 1)) aNil))) (aCons (eCall d__law_times (aCons (eCall d__law_times (aCons (eVar 3) (aCons (eVar 3) aNil))) (aCons (eVar 4) aNil))) aNil))))) sNil) sNil) (sCons (sIf (asB (eOp cEq (eVar 5) (eC (.int 4)))) (sCons (sRet (eTup (aCons (eCall d__law_plus (aCons (eVar 2) (aCons (eTup (aCons (eOp gSub (eC (.int 1)) (eOp gMul (eC (.int 2)) (eCall d__law_take (aCons (eVar 0) (aCons (eC (.int 2)) aNil))))) (aCons (eOp gSub (eC (.int 999999)) (eCall d__law_take (aCons (eVar 0) (aCons (eC (.int 5)) aNil)))) aNil))) aNil))) (aCons (eVar 3) (aCons (eVar 4) aNil))))) sNil) sNil) (sCons (sAsg (eCall d__law_reach (aCons (eCall d__law_form (aCons (eVar 1) aNil)) (aCons (eC (.int 1000)) aNil))) (ML.gName 7)) (sCons (sRet (eTup (aCons (eCall d__law_share (aCons (eOp gAdd (eOp gIx (eVar 7) (eC (.int 0))) (eCall d__law_take (aCons (eVar 0) (aCons (eC (.int 3)) aNil)))) (aCons (eC (.int 1000)) aNil))) (aCons (eTup (aCons (eC (.int 0)) (aCons (eC (.int 1)) aNil))) (aCons (eTup (aCons (eC (.int 0)) (aCons (eC (.int 1)) aNil))) aNil))))) sNil))))))))
abbrev s__law_right : Stmt := top 32
theorem sc__law_right : FnScope ["_law_one", "_law_other_here", "_law_found"] ["_law_one", "_law_other_here"] (defScope s__law_right) := ⟨rfl, rfl, rfl, by decide +kernel, rfl, by decide +kernel, by decide +kernel⟩
noncomputable def d__law_right : Fn := mkFn 2 3 (sCons (sAsg (eCall p_compare (aCons (eVar 0) (aCons (eVar 1) aNil))) (ML.gName 2)) (sCons (sRet (eAnd (eCall bIsi (aCons (eVar 2) (aCons (eC (.ty "int")) aNil))) (eAnd (eNot (eCall bIsi (aCons (eVar 2) (aCons (eC (.ty "bool")) aNil)))) (eOp cEq (eVar 2) (eCall d__law_compare (aCons (eVar 0) (aCons (eVar 1) aNil))))))) sNil))
abbrev s__law_greater : Stmt := top 33
theorem sc__law_greater : FnScope ["_law_number_here", "_law_many", "_law_p", "_law_q", "_law_d"] ["_law_number_here", "_law_many"] (defScope s__law_greater) := ⟨rfl, rfl, rfl, by decide +kernel, rfl, by decide +kernel, by decide +kernel⟩
noncomputable def d__law_greater : Fn := mkFn 2 5 (sCons (sAsg (eVar 0) (ML.gTup 3 (ML.gCons (ML.gName 2) (ML.gCons (ML.gName 3) (ML.gCons (ML.gName 4) ML.gNil))))) (sCons (sRet (eTup (aCons (eCall d__law_times (aCons (eVar 2) (aCons (eTup (aCons (eVar 1) (aCons (eC (.int 1)) aNil))) aNil))) (aCons (eCall d__law_times (aCons (eVar 3) (aCons (eTup (aCons (eVar 1) (aCons (eC (.int 1)) aNil))) aNil))) (aCons (eVar 4) aNil))))) sNil))
abbrev s_law : Stmt := top 34
theorem sc_law : FnScope ["_law_script", "_law_deck_here", "_law_many", "_law_turn", "_law_first", "_law_one", "_law_other_here"] ["_law_script"] (defScope s_law) := ⟨rfl, rfl, rfl, by decide +kernel, rfl, by decide +kernel, by decide +kernel⟩
noncomputable def d_law : Fn := mkFn 1 7 (sCons (sAsg (eCall d__law_deck (aCons (eVar 0) aNil)) (ML.gName 1)) (sCons (sAsg (eUIx (uLst (aCons (eC (.int 1)) (aCons (eOp gAdd (eOp gPow (eC (.int 10)) (eC (.int 30))) (eC (.int 57))) aNil))) (eCall bInt (aCons (eOp cEq (eCall d__law_take (aCons (eVar 1) (aCons (eC (.int 4)) aNil))) (eC (.int 0))) aNil))) (ML.gName 2)) (sCons (sFor (iRange1 (eC (.int 6))) (ML.gName 3) (sCons (sAsg (eCall d__law_number (aCons (eVar 1) aNil)) (ML.gName 4)) (sCons (sAsg (eCall d__law_greater (aCons (eVar 4) (aCons (eVar 2) aNil))) (ML.gName 5)) (sCons (sAsg (eCall d__law_greater (aCons (eCall d__law_other (aCons (eVar 1) (aCons (eVar 4) aNil))) (aCons (eVar 2) aNil))) (ML.gName 6)) (sCons (sIf (ML.tOr (ML.tNot (tTru (eCall d__law_right (aCons (eVar 5) (aCons (eVar 6) aNil))))) (ML.tOr (ML.tNot (tTru (eCall d__law_right (aCons (eVar 6) (aCons (eVar 5) aNil))))) (ML.tNot (tTru (eCall d__law_right (aCons (eVar 5) (aCons (eVar 5) aNil))))))) (sCons (sRet (eC (.bl false))) sNil) sNil) sNil))))) (sCons (sRet (eC (.bl true))) sNil))))
def fn : List He.DefD := [⟨("common_part", none), "common_part", "common_part", defArgs s_common_part, defBody s_common_part, defScope s_common_part, [], []⟩,
  ⟨("frac", none), "frac", "frac", defArgs s_frac, defBody s_frac, defScope s_frac, [], []⟩,
  ⟨("plus", none), "plus", "plus", defArgs s_plus, defBody s_plus, defScope s_plus, [], []⟩,
  ⟨("minus", none), "minus", "minus", defArgs s_minus, defBody s_minus, defScope s_minus, [], []⟩,
  ⟨("times", none), "times", "times", defArgs s_times, defBody s_times, defScope s_times, [], []⟩,
  ⟨("sign", none), "sign", "sign", defArgs s_sign, defBody s_sign, defScope s_sign, [], []⟩,
  ⟨("square", none), "square", "square", defArgs s_square, defBody s_square, defScope s_square, [], []⟩,
  ⟨("sign_of_root", none), "sign_of_root", "sign_of_root", defArgs s_sign_of_root, defBody s_sign_of_root, defScope s_sign_of_root, [], []⟩,
  ⟨("sign_of_two", none), "sign_of_two", "sign_of_two", defArgs s_sign_of_two, defBody s_sign_of_two, defScope s_sign_of_two, [], []⟩,
  ⟨("sign_of_sum", none), "sign_of_sum", "sign_of_sum", defArgs s_sign_of_sum, defBody s_sign_of_sum, defScope s_sign_of_sum, [], []⟩,
  ⟨("compare", none), "compare", "compare", defArgs s_compare, defBody s_compare, defScope s_compare, [], []⟩,
  ⟨("_law_cell", none), "_law_cell", "_law_cell", defArgs s__law_cell, defBody s__law_cell, defScope s__law_cell, [], []⟩,
  ⟨("_law_mixed", none), "_law_mixed", "_law_mixed", defArgs s__law_mixed, defBody s__law_mixed, defScope s__law_mixed, [], []⟩,
  ⟨("_law_deck", none), "_law_deck", "_law_deck", defArgs s__law_deck, defBody s__law_deck, defScope s__law_deck, [], []⟩,
  ⟨("_law_take", none), "_law_take", "_law_take", defArgs s__law_take, defBody s__law_take, defScope s__law_take, [], []⟩,
  ⟨("_law_gcd", none), "_law_gcd", "_law_gcd", defArgs s__law_gcd, defBody s__law_gcd, defScope s__law_gcd, [], []⟩,
  ⟨("_law_share", none), "_law_share", "_law_share", defArgs s__law_share, defBody s__law_share, defScope s__law_share, [], []⟩,
  ⟨("_law_plus", none), "_law_plus", "_law_plus", defArgs s__law_plus, defBody s__law_plus, defScope s__law_plus, [], []⟩,
  ⟨("_law_times", none), "_law_times", "_law_times", defArgs s__law_times, defBody s__law_times, defScope s__law_times, [], []⟩,
  ⟨("_law_figures", none), "_law_figures", "_law_figures", defArgs s__law_figures, defBody s__law_figures, defScope s__law_figures, [], []⟩,
  ⟨("_law_fraction", none), "_law_fraction", "_law_fraction", defArgs s__law_fraction, defBody s__law_fraction, defScope s__law_fraction, [], []⟩,
  ⟨("_law_whole_root", none), "_law_whole_root", "_law_whole_root", defArgs s__law_whole_root, defBody s__law_whole_root, defScope s__law_whole_root, [], []⟩,
  ⟨("_law_plain_root", none), "_law_plain_root", "_law_plain_root", defArgs s__law_plain_root, defBody s__law_plain_root, defScope s__law_plain_root, [], []⟩,
  ⟨("_law_form", none), "_law_form", "_law_form", defArgs s__law_form, defBody s__law_form, defScope s__law_form, [], []⟩,
  ⟨("_law_reach", none), "_law_reach", "_law_reach", defArgs s__law_reach, defBody s__law_reach, defScope s__law_reach, [], []⟩,
  ⟨("_law_compare", none), "_law_compare", "_law_compare", defArgs s__law_compare, defBody s__law_compare, defScope s__law_compare, [], []⟩,
  ⟨("_law_number", none), "_law_number", "_law_number", defArgs s__law_number, defBody s__law_number, defScope s__law_number, [], []⟩,
  ⟨("_law_other", none), "_law_other", "_law_other", defArgs s__law_other, defBody s__law_other, defScope s__law_other, [], []⟩,
  ⟨("_law_right", none), "_law_right", "_law_right", defArgs s__law_right, defBody s__law_right, defScope s__law_right, [], []⟩,
  ⟨("_law_greater", none), "_law_greater", "_law_greater", defArgs s__law_greater, defBody s__law_greater, defScope s__law_greater, [], []⟩,
  ⟨("law", none), "law", "law", defArgs s_law, defBody s_law, defScope s_law, [], []⟩]
def fa : List He.Fa := [.glo "common_part", .glo "frac", .glo "plus", .glo "minus", .glo "times", .glo "sign", .glo "square", .glo "sign_of_root", .glo "sign_of_two", .glo "sign_of_sum", .glo "compare", .glo "_law_cell", .glo "_law_mixed", .glo "_law_deck", .glo "_law_take", .glo "_law_gcd", .glo "_law_share", .glo "_law_plus", .glo "_law_times", .glo "_law_figures", .glo "_law_fraction", .glo "_law_whole_root", .glo "_law_plain_root", .glo "_law_form", .glo "_law_reach", .glo "_law_compare", .glo "_law_number", .glo "_law_other", .glo "_law_right", .glo "_law_greater", .glo "law", .free "abs", .free "int", .free "len", .free "max", .free "range", .free "isinstance", .free "bool"]
def cs : List (Str × D) := [("ZERO", .tup [.int 0, .int 1])]
def ts : List TabD := []
section
variable {P : Program} {w : World} {K : PySem.W.Frag} {mg : Str → Option Value} {base h : Heap} (X : K.In h) (G : h.Ns mainGlobals mg) (c : SaysY fa fn cs ts w K)
include X G c
theorem m_abs : mg "abs" = none := He.free_ok X G (c.d.fact 31 (f := .free "abs") rfl)
theorem m_int : mg "int" = none := He.free_ok X G (c.d.fact 32 (f := .free "int") rfl)
theorem m_len : mg "len" = none := He.free_ok X G (c.d.fact 33 (f := .free "len") rfl)
theorem m_max : mg "max" = none := He.free_ok X G (c.d.fact 34 (f := .free "max") rfl)
theorem m_range : mg "range" = none := He.free_ok X G (c.d.fact 35 (f := .free "range") rfl)
theorem m_isinstance : mg "isinstance" = none := He.free_ok X G (c.d.fact 36 (f := .free "isinstance") rfl)
theorem m_bool : mg "bool" = none := He.free_ok X G (c.d.fact 37 (f := .free "bool") rfl)
theorem c_ZERO : HasC K mg "ZERO" (.tup [.int 0, .int 1]) := c.cst X G 0 rfl
theorem ok_common_part : HasFn P w K mg base "common_part" 1 d_common_part := by
  obtain ⟨fd_0, F_0⟩ := c.d.def_ 0 (d := ⟨("common_part", none), "common_part", "common_part", defArgs s_common_part, defBody s_common_part, defScope s_common_part, [], []⟩) rfl
  refine ⟨_, fd_0, ["one", "other"], He.glo_ok X G (c.d.fact 0 (f := .glo "common_part") rfl), F_0.kp, F_0.bindsN (fun _ _ _ _ _ _ us hl => match us, hl with | [_, _], _ => rfl), fn_ok F_0 sc_common_part fun cdv A outer s H E hr => ?_⟩
  have nd := sc_common_part.nd
  exact (mss_cons (ms_par 0 1 rfl nd (ma_cons (mb_abs (m_abs X G c) (ma_cons (me_var 0) ma_nil)) (ma_cons (mb_abs (m_abs X G c) (ma_cons (me_var 1) ma_nil)) ma_nil))) (mss_cons (ms_while PassesOwn.never (mt_val (me_var 1)) (mss_cons (ms_par 0 1 rfl nd (ma_cons (me_var 1) (ma_cons (me_mod (me_var 0) (me_var 1)) ma_nil))) mss_nil)) (mss_cons (ms_ret (me_var 0)) mss_nil)))
theorem ok_frac : HasFn P w K mg base "frac" 2 d_frac := by
  obtain ⟨fd_1, F_1⟩ := c.d.def_ 1 (d := ⟨("frac", none), "frac", "frac", defArgs s_frac, defBody s_frac, defScope s_frac, [], []⟩) rfl
  refine ⟨_, fd_1, ["above", "below"], He.glo_ok X G (c.d.fact 1 (f := .glo "frac") rfl), F_1.kp, F_1.bindsN (fun _ _ _ _ _ _ us hl => match us, hl with | [_, _], _ => rfl), fn_ok F_1 sc_frac fun cdv A outer s H E hr => ?_⟩
  have nd := sc_frac.nd
  exact (mss_cons (ms_set 2 nd (me_callF (ok_common_part X G c) hr (ma_cons (me_var 0) (ma_cons (me_var 1) ma_nil)))) (mss_cons (ms_if (mt_lt (me_var 1) me_int) (mss_cons (ms_set 2 nd (me_neg (me_var 2))) mss_nil) mss_nil) (mss_cons (ms_ret (me_tup (ma_cons (me_fdiv (me_var 0) (me_var 2)) (ma_cons (me_fdiv (me_var 1) (me_var 2)) ma_nil)))) mss_nil)))
theorem ok_plus : HasFn P w K mg base "plus" 3 d_plus := by
  obtain ⟨fd_2, F_2⟩ := c.d.def_ 2 (d := ⟨("plus", none), "plus", "plus", defArgs s_plus, defBody s_plus, defScope s_plus, [], []⟩) rfl
  refine ⟨_, fd_2, ["one", "other"], He.glo_ok X G (c.d.fact 2 (f := .glo "plus") rfl), F_2.kp, F_2.bindsN (fun _ _ _ _ _ _ us hl => match us, hl with | [_, _], _ => rfl), fn_ok F_2 sc_plus fun cdv A outer s H E hr => ?_⟩
  have nd := sc_plus.nd
  exact (mss_cons (ms_ret (me_callF (ok_frac X G c) hr (ma_cons (me_add (me_mul (me_ix (me_var 0) me_int) (me_ix (me_var 1) me_int)) (me_mul (me_ix (me_var 1) me_int) (me_ix (me_var 0) me_int))) (ma_cons (me_mul (me_ix (me_var 0) me_int) (me_ix (me_var 1) me_int)) ma_nil)))) mss_nil)
theorem ok_minus : HasFn P w K mg base "minus" 3 d_minus := by
  obtain ⟨fd_3, F_3⟩ := c.d.def_ 3 (d := ⟨("minus", none), "minus", "minus", defArgs s_minus, defBody s_minus, defScope s_minus, [], []⟩) rfl
  refine ⟨_, fd_3, ["one", "other"], He.glo_ok X G (c.d.fact 3 (f := .glo "minus") rfl), F_3.kp, F_3.bindsN (fun _ _ _ _ _ _ us hl => match us, hl with | [_, _], _ => rfl), fn_ok F_3 sc_minus fun cdv A outer s H E hr => ?_⟩
  have nd := sc_minus.nd
  exact (mss_cons (ms_ret (me_callF (ok_frac X G c) hr (ma_cons (me_sub (me_mul (me_ix (me_var 0) me_int) (me_ix (me_var 1) me_int)) (me_mul (me_ix (me_var 1) me_int) (me_ix (me_var 0) me_int))) (ma_cons (me_mul (me_ix (me_var 0) me_int) (me_ix (me_var 1) me_int)) ma_nil)))) mss_nil)
theorem ok_times : HasFn P w K mg base "times" 3 d_times := by
  obtain ⟨fd_4, F_4⟩ := c.d.def_ 4 (d := ⟨("times", none), "times", "times", defArgs s_times, defBody s_times, defScope s_times, [], []⟩) rfl
  refine ⟨_, fd_4, ["one", "other"], He.glo_ok X G (c.d.fact 4 (f := .glo "times") rfl), F_4.kp, F_4.bindsN (fun _ _ _ _ _ _ us hl => match us, hl with | [_, _], _ => rfl), fn_ok F_4 sc_times fun cdv A outer s H E hr => ?_⟩
  have nd := sc_times.nd
  exact (mss_cons (ms_ret (me_callF (ok_frac X G c) hr (ma_cons (me_mul (me_ix (me_var 0) me_int) (me_ix (me_var 1) me_int)) (ma_cons (me_mul (me_ix (me_var 0) me_int) (me_ix (me_var 1) me_int)) ma_nil)))) mss_nil)
theorem ok_sign : HasFn P w K mg base "sign" 1 d_sign := by
  obtain ⟨fd_5, F_5⟩ := c.d.def_ 5 (d := ⟨("sign", none), "sign", "sign", defArgs s_sign, defBody s_sign, defScope s_sign, [], []⟩) rfl
  refine ⟨_, fd_5, ["one"], He.glo_ok X G (c.d.fact 5 (f := .glo "sign") rfl), F_5.kp, F_5.bindsN (fun _ _ _ _ _ _ us hl => match us, hl with | [_], _ => rfl), fn_ok F_5 sc_sign fun cdv A outer s H E hr => ?_⟩
  have nd := sc_sign.nd
  exact (mss_cons (ms_ret (me_sub (mb_int (m_int X G c) (ma_cons (me_gt (me_ix (me_var 0) me_int) me_int) ma_nil)) (mb_int (m_int X G c) (ma_cons (me_lt (me_ix (me_var 0) me_int) me_int) ma_nil)))) mss_nil)
theorem ok_square : HasFn P w K mg base "square" 4 d_square := by
  obtain ⟨fd_6, F_6⟩ := c.d.def_ 6 (d := ⟨("square", none), "square", "square", defArgs s_square, defBody s_square, defScope s_square, [], []⟩) rfl
  refine ⟨_, fd_6, ["one"], He.glo_ok X G (c.d.fact 6 (f := .glo "square") rfl), F_6.kp, F_6.bindsN (fun _ _ _ _ _ _ us hl => match us, hl with | [_], _ => rfl), fn_ok F_6 sc_square fun cdv A outer s H E hr => ?_⟩
  have nd := sc_square.nd
  exact (mss_cons (ms_ret (me_callF (ok_times X G c) hr (ma_cons (me_var 0) (ma_cons (me_var 0) ma_nil)))) mss_nil)
theorem ok_sign_of_root : HasFn P w K mg base "sign_of_root" 5 d_sign_of_root := by
  obtain ⟨fd_7, F_7⟩ := c.d.def_ 7 (d := ⟨("sign_of_root", none), "sign_of_root", "sign_of_root", defArgs s_sign_of_root, defBody s_sign_of_root, defScope s_sign_of_root, [], []⟩) rfl
  refine ⟨_, fd_7, ["p", "q", "d"], He.glo_ok X G (c.d.fact 7 (f := .glo "sign_of_root") rfl), F_7.kp, F_7.bindsN (fun _ _ _ _ _ _ us hl => match us, hl with | [_, _, _], _ => rfl), fn_ok F_7 sc_sign_of_root fun cdv A outer s H E hr => ?_⟩
  have nd := sc_sign_of_root.nd
  exact (mss_cons (ms_set 3 nd (me_callF (ok_sign X G c) hr (ma_cons (me_var 0) ma_nil))) (mss_cons (ms_set 4 nd (me_mul (me_callF (ok_sign X G c) hr (ma_cons (me_var 1) ma_nil)) (me_callF (ok_sign X G c) hr (ma_cons (me_var 2) ma_nil)))) (mss_cons (ms_if (mt_bool (mw_or (mt_eq hr.units (me_var 3) (me_var 4)) (mw_or1 (mt_eq hr.units (me_var 4) me_int)))) (mss_cons (ms_ret (me_var 3)) mss_nil) mss_nil) (mss_cons (ms_if (mt_eq hr.units (me_var 3) me_int) (mss_cons (ms_ret (me_var 4)) mss_nil) mss_nil) (mss_cons (ms_ret (me_mul (me_var 3) (me_callF (ok_sign X G c) hr (ma_cons (me_callF (ok_minus X G c) hr (ma_cons (me_callF (ok_square X G c) hr (ma_cons (me_var 0) ma_nil)) (ma_cons (me_callF (ok_times X G c) hr (ma_cons (me_callF (ok_square X G c) hr (ma_cons (me_var 1) ma_nil)) (ma_cons (me_var 2) ma_nil))) ma_nil))) ma_nil)))) mss_nil)))))
theorem ok_sign_of_two : HasFn P w K mg base "sign_of_two" 5 d_sign_of_two := by
  obtain ⟨fd_8, F_8⟩ := c.d.def_ 8 (d := ⟨("sign_of_two", none), "sign_of_two", "sign_of_two", defArgs s_sign_of_two, defBody s_sign_of_two, defScope s_sign_of_two, [], []⟩) rfl
  refine ⟨_, fd_8, ["q", "d", "r", "e"], He.glo_ok X G (c.d.fact 8 (f := .glo "sign_of_two") rfl), F_8.kp, F_8.bindsN (fun _ _ _ _ _ _ us hl => match us, hl with | [_, _, _, _], _ => rfl), fn_ok F_8 sc_sign_of_two fun cdv A outer s H E hr => ?_⟩
  have nd := sc_sign_of_two.nd
  exact (mss_cons (ms_set 4 nd (me_mul (me_callF (ok_sign X G c) hr (ma_cons (me_var 0) ma_nil)) (me_callF (ok_sign X G c) hr (ma_cons (me_var 1) ma_nil)))) (mss_cons (ms_set 5 nd (me_mul (me_callF (ok_sign X G c) hr (ma_cons (me_var 2) ma_nil)) (me_callF (ok_sign X G c) hr (ma_cons (me_var 3) ma_nil)))) (mss_cons (ms_if (mt_bool (mw_or (mt_eq hr.units (me_var 4) (me_var 5)) (mw_or1 (mt_eq hr.units (me_var 5) me_int)))) (mss_cons (ms_ret (me_var 4)) mss_nil) mss_nil) (mss_cons (ms_if (mt_eq hr.units (me_var 4) me_int) (mss_cons (ms_ret (me_var 5)) mss_nil) mss_nil) (mss_cons (ms_ret (me_mul (me_var 4) (me_callF (ok_sign X G c) hr (ma_cons (me_callF (ok_minus X G c) hr (ma_cons (me_callF (ok_times X G c) hr (ma_cons (me_callF (ok_square X G c) hr (ma_cons (me_var 0) ma_nil)) (ma_cons (me_var 1) ma_nil))) (ma_cons (me_callF (ok_times X G c) hr (ma_cons (me_callF (ok_square X G c) hr (ma_cons (me_var 2) ma_nil)) (ma_cons (me_var 3) ma_nil))) ma_nil))) ma_nil)))) mss_nil)))))
theorem ok_sign_of_sum : HasFn P w K mg base "sign_of_sum" 6 d_sign_of_sum := by
  obtain ⟨fd_9, F_9⟩ := c.d.def_ 9 (d := ⟨("sign_of_sum", none), "sign_of_sum", "sign_of_sum", defArgs s_sign_of_sum, defBody s_sign_of_sum, defScope s_sign_of_sum, [], []⟩) rfl
  refine ⟨_, fd_9, ["p", "q", "d", "r", "e"], He.glo_ok X G (c.d.fact 9 (f := .glo "sign_of_sum") rfl), F_9.kp, F_9.bindsN (fun _ _ _ _ _ _ us hl => match us, hl with | [_, _, _, _, _], _ => rfl), fn_ok F_9 sc_sign_of_sum fun cdv A outer s H E hr => ?_⟩
  have nd := sc_sign_of_sum.nd
  exact (mss_cons (ms_set 5 nd (me_callF (ok_sign X G c) hr (ma_cons (me_var 0) ma_nil))) (mss_cons (ms_set 6 nd (me_callF (ok_sign_of_two X G c) hr (ma_cons (me_var 1) (ma_cons (me_var 2) (ma_cons (me_var 3) (ma_cons (me_var 4) ma_nil)))))) (mss_cons (ms_if (mt_bool (mw_or (mt_eq hr.units (me_var 5) (me_var 6)) (mw_or1 (mt_eq hr.units (me_var 6) me_int)))) (mss_cons (ms_ret (me_var 5)) mss_nil) mss_nil) (mss_cons (ms_if (mt_eq hr.units (me_var 5) me_int) (mss_cons (ms_ret (me_var 6)) mss_nil) mss_nil) (mss_cons (ms_set 7 nd (me_callF (ok_minus X G c) hr (ma_cons (me_callF (ok_square X G c) hr (ma_cons (me_var 0) ma_nil)) (ma_cons (me_callF (ok_plus X G c) hr (ma_cons (me_callF (ok_times X G c) hr (ma_cons (me_callF (ok_square X G c) hr (ma_cons (me_var 1) ma_nil)) (ma_cons (me_var 2) ma_nil))) (ma_cons (me_callF (ok_times X G c) hr (ma_cons (me_callF (ok_square X G c) hr (ma_cons (me_var 3) ma_nil)) (ma_cons (me_var 4) ma_nil))) ma_nil))) ma_nil)))) (mss_cons (ms_set 8 nd (me_callF (ok_times X G c) hr (ma_cons (me_tup (ma_cons (me_neg me_int) (ma_cons me_int ma_nil))) (ma_cons (me_callF (ok_times X G c) hr (ma_cons (me_var 1) (ma_cons (me_var 3) ma_nil))) ma_nil)))) (mss_cons (ms_ret (me_mul (me_var 5) (me_callF (ok_sign_of_root X G c) hr (ma_cons (me_var 7) (ma_cons (me_var 8) (ma_cons (me_callF (ok_times X G c) hr (ma_cons (me_var 2) (ma_cons (me_var 4) ma_nil))) ma_nil)))))) mss_nil)))))))
theorem ok_compare : HasFn P w K mg base "compare" 7 d_compare := by
  obtain ⟨fd_10, F_10⟩ := c.d.def_ 10 (d := ⟨("compare", none), "compare", "compare", defArgs s_compare, defBody s_compare, defScope s_compare, [], []⟩) rfl
  refine ⟨_, fd_10, ["one", "other"], He.glo_ok X G (c.d.fact 10 (f := .glo "compare") rfl), F_10.kp, F_10.bindsN (fun _ _ _ _ _ _ us hl => match us, hl with | [_, _], _ => rfl), fn_ok F_10 sc_compare fun cdv A outer s H E hr => ?_⟩
  have nd := sc_compare.nd
  exact (mss_cons (ms_asg (me_tup (ma_cons (me_var 0) (ma_cons (me_var 1) ma_nil))) (mg_tup rfl (mgs_cons (mg_tup rfl (mgs_cons (mg_name 2 nd) (mgs_cons (mg_name 3 nd) (mgs_cons (mg_name 4 nd) mgs_nil)))) (mgs_cons (mg_tup rfl (mgs_cons (mg_name 5 nd) (mgs_cons (mg_name 6 nd) (mgs_cons (mg_name 7 nd) mgs_nil)))) mgs_nil)))) (mss_cons (ms_ret (me_callF (ok_sign_of_sum X G c) hr (ma_cons (me_callF (ok_minus X G c) hr (ma_cons (me_var 2) (ma_cons (me_var 5) ma_nil))) (ma_cons (me_var 3) (ma_cons (me_var 4) (ma_cons (me_callF (ok_minus X G c) hr (ma_cons (me_cst (c_ZERO X G c)) (ma_cons (me_var 6) ma_nil))) (ma_cons (me_var 7) ma_nil))))))) mss_nil))
theorem ok__law_cell : HasFn P w K mg base "_law_cell" 1 d__law_cell := by
  obtain ⟨fd_11, F_11⟩ := c.d.def_ 11 (d := ⟨("_law_cell", none), "_law_cell", "_law_cell", defArgs s__law_cell, defBody s__law_cell, defScope s__law_cell, [], []⟩) rfl
  refine ⟨_, fd_11, ["_law_script", "_law_k"], He.glo_ok X G (c.d.fact 11 (f := .glo "_law_cell") rfl), F_11.kp, F_11.bindsN (fun _ _ _ _ _ _ us hl => match us, hl with | [_, _], _ => rfl), fn_ok F_11 sc__law_cell fun cdv A outer s H E hr => ?_⟩
  have nd := sc__law_cell.nd
  exact (mss_cons (ms_if (mt_eq hr.units (mb_len (m_len X G c) (ma_cons (me_var 0) ma_nil)) me_int) (mss_cons (ms_ret (me_add (me_mul me_int (me_var 1)) me_int)) mss_nil) mss_nil) (mss_cons (ms_ret (mb_abs (m_abs X G c) (ma_cons (me_ix (me_var 0) (me_mod (me_var 1) (mb_len (m_len X G c) (ma_cons (me_var 0) ma_nil)))) ma_nil))) mss_nil))
theorem ok__law_mixed : HasFn P w K mg base "_law_mixed" 2 d__law_mixed := by
  obtain ⟨fd_12, F_12⟩ := c.d.def_ 12 (d := ⟨("_law_mixed", none), "_law_mixed", "_law_mixed", defArgs s__law_mixed, defBody s__law_mixed, defScope s__law_mixed, [], []⟩) rfl
  refine ⟨_, fd_12, ["_law_script", "_law_k", "_law_many"], He.glo_ok X G (c.d.fact 12 (f := .glo "_law_mixed") rfl), F_12.kp, F_12.bindsN (fun _ _ _ _ _ _ us hl => match us, hl with | [_, _, _], _ => rfl), fn_ok F_12 sc__law_mixed fun cdv A outer s H E hr => ?_⟩
  have nd := sc__law_mixed.nd
  exact (mss_cons (ms_set 3 nd (me_mod (me_pow (me_add (me_mul (me_add (me_mod (me_callF (ok__law_cell X G c) hr (ma_cons (me_var 0) (ma_cons (me_var 1) ma_nil))) me_int) me_int) (me_add (me_var 1) me_int)) (me_mul me_int (me_var 1))) me_int) me_int)) (mss_cons (ms_ret (me_mod (me_fdiv (me_var 3) me_int) (me_var 2))) mss_nil))
theorem ok__law_deck : HasFn P w K mg base "_law_deck" 1 d__law_deck := by
  obtain ⟨fd_13, F_13⟩ := c.d.def_ 13 (d := ⟨("_law_deck", none), "_law_deck", "_law_deck", defArgs s__law_deck, defBody s__law_deck, defScope s__law_deck, [], []⟩) rfl
  refine ⟨_, fd_13, ["_law_script"], He.glo_ok X G (c.d.fact 13 (f := .glo "_law_deck") rfl), F_13.kp, F_13.bindsN (fun _ _ _ _ _ _ us hl => match us, hl with | [_], _ => rfl), fn_ok F_13 sc__law_deck fun cdv A outer s H E hr => ?_⟩
  have nd := sc__law_deck.nd
  exact (mss_cons (ms_ret (me_own (mu_lst (ma_cons (me_var 0) (ma_cons (me_own (mu_lc [("_law_part", 1)] rfl nd (mi_seq (me_var 0)) (blkOk_by (N := ["_law_script", "_law_part"]) (sc := defScope s__law_deck) (by decide +kernel)) (fun _ _ _ _ _ => (pg_name (i := 1) nd rfl (Or.inl rfl))) (gc_name (by decide)) (fun _ _ _ _ _ => (mts_one (mt_ge (mb_abs (m_abs X G c) (ma_cons (me_var 1) ma_nil)) (me_pow me_int me_int)))) (fun _ _ _ _ _ => (mb_abs (m_abs X G c) (ma_cons (me_var 1) ma_nil))))) (ma_cons me_int (ma_cons me_int ma_nil))))))) mss_nil)
theorem ok__law_take : HasFn P w K mg base "_law_take" 3 d__law_take := by
  obtain ⟨fd_14, F_14⟩ := c.d.def_ 14 (d := ⟨("_law_take", none), "_law_take", "_law_take", defArgs s__law_take, defBody s__law_take, defScope s__law_take, [], []⟩) rfl
  refine ⟨_, fd_14, ["_law_deck_here", "_law_many"], He.glo_ok X G (c.d.fact 14 (f := .glo "_law_take") rfl), F_14.kp, F_14.bindsN (fun _ _ _ _ _ _ us hl => match us, hl with | [_, _], _ => rfl), fn_ok F_14 sc__law_take fun cdv A outer s H E hr => ?_⟩
  have nd := sc__law_take.nd
  exact (mss_cons (ms_while PassesOwn.never (mt_lt (me_ix (me_var 0) me_int) (mb_len (m_len X G c) (ma_cons (me_ix (me_var 0) me_int) ma_nil))) (mss_cons (ms_set 2 nd (me_ix (me_ix (me_var 0) me_int) (me_ix (me_var 0) me_int))) (mss_cons (ms_if (mt_gt (me_var 2) me_int) (mss_cons (ms_asg (me_fdiv (me_var 2) (me_var 1)) (mg_sub (me_ix (me_var 0) me_int) (me_ix (me_var 0) me_int))) (mss_cons (ms_ret (me_mod (me_var 2) (me_var 1))) mss_nil)) mss_nil) (mss_cons (ms_asg (me_add (me_ix (me_var 0) me_int) me_int) (mg_sub (me_var 0) me_int)) mss_nil)))) (mss_cons (ms_asg (me_add (me_ix (me_var 0) me_int) me_int) (mg_sub (me_var 0) me_int)) (mss_cons (ms_ret (me_callF (ok__law_mixed X G c) hr (ma_cons (me_ix (me_var 0) me_int) (ma_cons (me_ix (me_var 0) me_int) (ma_cons (me_var 1) ma_nil))))) mss_nil)))
theorem ok__law_gcd : HasFn P w K mg base "_law_gcd" 1 d__law_gcd := by
  obtain ⟨fd_15, F_15⟩ := c.d.def_ 15 (d := ⟨("_law_gcd", none), "_law_gcd", "_law_gcd", defArgs s__law_gcd, defBody s__law_gcd, defScope s__law_gcd, [], []⟩) rfl
  refine ⟨_, fd_15, ["_law_one", "_law_other_here"], He.glo_ok X G (c.d.fact 15 (f := .glo "_law_gcd") rfl), F_15.kp, F_15.bindsN (fun _ _ _ _ _ _ us hl => match us, hl with | [_, _], _ => rfl), fn_ok F_15 sc__law_gcd fun cdv A outer s H E hr => ?_⟩
  have nd := sc__law_gcd.nd
  exact (mss_cons (ms_set 0 nd (mb_abs (m_abs X G c) (ma_cons (me_var 0) ma_nil))) (mss_cons (ms_set 1 nd (mb_abs (m_abs X G c) (ma_cons (me_var 1) ma_nil))) (mss_cons (ms_while PassesOwn.never (mt_gt (me_var 1) me_int) (mss_cons (ms_par 0 1 rfl nd (ma_cons (me_var 1) (ma_cons (me_mod (me_var 0) (me_var 1)) ma_nil))) mss_nil)) (mss_cons (ms_ret (me_var 0)) mss_nil))))
theorem ok__law_share : HasFn P w K mg base "_law_share" 2 d__law_share := by
  obtain ⟨fd_16, F_16⟩ := c.d.def_ 16 (d := ⟨("_law_share", none), "_law_share", "_law_share", defArgs s__law_share, defBody s__law_share, defScope s__law_share, [], []⟩) rfl
  refine ⟨_, fd_16, ["_law_top", "_law_bottom"], He.glo_ok X G (c.d.fact 16 (f := .glo "_law_share") rfl), F_16.kp, F_16.bindsN (fun _ _ _ _ _ _ us hl => match us, hl with | [_, _], _ => rfl), fn_ok F_16 sc__law_share fun cdv A outer s H E hr => ?_⟩
  have nd := sc__law_share.nd
  exact (mss_cons (ms_set 2 nd (me_callF (ok__law_gcd X G c) hr (ma_cons (me_var 0) (ma_cons (me_var 1) ma_nil)))) (mss_cons (ms_if (mt_lt (me_var 1) me_int) (mss_cons (ms_set 2 nd (me_neg (me_var 2))) mss_nil) mss_nil) (mss_cons (ms_ret (me_tup (ma_cons (me_fdiv (me_var 0) (me_var 2)) (ma_cons (me_fdiv (me_var 1) (me_var 2)) ma_nil)))) mss_nil)))
theorem ok__law_plus : HasFn P w K mg base "_law_plus" 3 d__law_plus := by
  obtain ⟨fd_17, F_17⟩ := c.d.def_ 17 (d := ⟨("_law_plus", none), "_law_plus", "_law_plus", defArgs s__law_plus, defBody s__law_plus, defScope s__law_plus, [], []⟩) rfl
  refine ⟨_, fd_17, ["_law_one", "_law_other_here"], He.glo_ok X G (c.d.fact 17 (f := .glo "_law_plus") rfl), F_17.kp, F_17.bindsN (fun _ _ _ _ _ _ us hl => match us, hl with | [_, _], _ => rfl), fn_ok F_17 sc__law_plus fun cdv A outer s H E hr => ?_⟩
  have nd := sc__law_plus.nd
  exact (mss_cons (ms_ret (me_callF (ok__law_share X G c) hr (ma_cons (me_add (me_mul (me_ix (me_var 0) me_int) (me_ix (me_var 1) me_int)) (me_mul (me_ix (me_var 1) me_int) (me_ix (me_var 0) me_int))) (ma_cons (me_mul (me_ix (me_var 0) me_int) (me_ix (me_var 1) me_int)) ma_nil)))) mss_nil)
theorem ok__law_times : HasFn P w K mg base "_law_times" 3 d__law_times := by
  obtain ⟨fd_18, F_18⟩ := c.d.def_ 18 (d := ⟨("_law_times", none), "_law_times", "_law_times", defArgs s__law_times, defBody s__law_times, defScope s__law_times, [], []⟩) rfl
  refine ⟨_, fd_18, ["_law_one", "_law_other_here"], He.glo_ok X G (c.d.fact 18 (f := .glo "_law_times") rfl), F_18.kp, F_18.bindsN (fun _ _ _ _ _ _ us hl => match us, hl with | [_, _], _ => rfl), fn_ok F_18 sc__law_times fun cdv A outer s H E hr => ?_⟩
  have nd := sc__law_times.nd
  exact (mss_cons (ms_ret (me_callF (ok__law_share X G c) hr (ma_cons (me_mul (me_ix (me_var 0) me_int) (me_ix (me_var 1) me_int)) (ma_cons (me_mul (me_ix (me_var 0) me_int) (me_ix (me_var 1) me_int)) ma_nil)))) mss_nil)
theorem ok__law_figures : HasFn P w K mg base "_law_figures" 4 d__law_figures := by
  obtain ⟨fd_19, F_19⟩ := c.d.def_ 19 (d := ⟨("_law_figures", none), "_law_figures", "_law_figures", defArgs s__law_figures, defBody s__law_figures, defScope s__law_figures, [], []⟩) rfl
  refine ⟨_, fd_19, ["_law_deck_here"], He.glo_ok X G (c.d.fact 19 (f := .glo "_law_figures") rfl), F_19.kp, F_19.bindsN (fun _ _ _ _ _ _ us hl => match us, hl with | [_], _ => rfl), fn_ok F_19 sc__law_figures fun cdv A outer s H E hr => ?_⟩
  have nd := sc__law_figures.nd
  exact (mss_cons (ms_set 1 nd (me_callF (ok__law_take X G c) hr (ma_cons (me_var 0) (ma_cons me_int ma_nil)))) (mss_cons (ms_if (mt_lt (me_var 1) me_int) (mss_cons (ms_ret (me_callF (ok__law_take X G c) hr (ma_cons (me_var 0) (ma_cons me_int ma_nil)))) mss_nil) mss_nil) (mss_cons (ms_if (mt_eq hr.units (me_var 1) me_int) (mss_cons (ms_ret (me_add (me_mul (me_callF (ok__law_take X G c) hr (ma_cons (me_var 0) (ma_cons me_int ma_nil))) me_int) (me_callF (ok__law_take X G c) hr (ma_cons (me_var 0) (ma_cons me_int ma_nil))))) mss_nil) mss_nil) (mss_cons (ms_ret (me_sub me_int (me_callF (ok__law_take X G c) hr (ma_cons (me_var 0) (ma_cons me_int ma_nil))))) mss_nil))))
theorem ok__law_fraction : HasFn P w K mg base "_law_fraction" 5 d__law_fraction := by
  obtain ⟨fd_20, F_20⟩ := c.d.def_ 20 (d := ⟨("_law_fraction", none), "_law_fraction", "_law_fraction", defArgs s__law_fraction, defBody s__law_fraction, defScope s__law_fraction, [], []⟩) rfl
  refine ⟨_, fd_20, ["_law_deck_here"], He.glo_ok X G (c.d.fact 20 (f := .glo "_law_fraction") rfl), F_20.kp, F_20.bindsN (fun _ _ _ _ _ _ us hl => match us, hl with | [_], _ => rfl), fn_ok F_20 sc__law_fraction fun cdv A outer s H E hr => ?_⟩
  have nd := sc__law_fraction.nd
  exact (mss_cons (ms_set 1 nd (me_mul (me_callF (ok__law_figures X G c) hr (ma_cons (me_var 0) ma_nil)) (me_sub me_int (me_mul me_int (me_callF (ok__law_take X G c) hr (ma_cons (me_var 0) (ma_cons me_int ma_nil))))))) (mss_cons (ms_ret (me_callF (ok__law_share X G c) hr (ma_cons (me_var 1) (ma_cons (mb_max rfl (m_max X G c) (ma_cons me_int (ma_cons (me_uix (mu_lst (ma_cons me_int (ma_cons (me_callF (ok__law_figures X G c) hr (ma_cons (me_var 0) ma_nil)) ma_nil))) (me_callF (ok__law_take X G c) hr (ma_cons (me_var 0) (ma_cons me_int ma_nil)))) ma_nil))) ma_nil)))) mss_nil))
theorem ok__law_whole_root : HasFn P w K mg base "_law_whole_root" 1 d__law_whole_root := by
  obtain ⟨fd_21, F_21⟩ := c.d.def_ 21 (d := ⟨("_law_whole_root", none), "_law_whole_root", "_law_whole_root", defArgs s__law_whole_root, defBody s__law_whole_root, defScope s__law_whole_root, [], []⟩) rfl
  refine ⟨_, fd_21, ["_law_number_here"], He.glo_ok X G (c.d.fact 21 (f := .glo "_law_whole_root") rfl), F_21.kp, F_21.bindsN (fun _ _ _ _ _ _ us hl => match us, hl with | [_], _ => rfl), fn_ok F_21 sc__law_whole_root fun cdv A outer s H E hr => ?_⟩
  have nd := sc__law_whole_root.nd
  exact (mss_cons (ms_set 1 nd me_int) (mss_cons (ms_while PassesOwn.never (mt_le (me_mul (me_var 1) (me_var 1)) (me_var 0)) (mss_cons (ms_set 1 nd (me_mul (me_var 1) me_int)) mss_nil)) (mss_cons (ms_while PassesOwn.never (mt_gt (me_mul (me_var 1) (me_var 1)) (me_var 0)) (mss_cons (ms_set 1 nd (me_fdiv (me_add (me_var 1) (me_fdiv (me_var 0) (me_var 1))) me_int)) mss_nil)) (mss_cons (ms_ret (me_var 1)) mss_nil))))
theorem ok__law_plain_root : HasFn P w K mg base "_law_plain_root" 3 d__law_plain_root := by
  obtain ⟨fd_22, F_22⟩ := c.d.def_ 22 (d := ⟨("_law_plain_root", none), "_law_plain_root", "_law_plain_root", defArgs s__law_plain_root, defBody s__law_plain_root, defScope s__law_plain_root, [], []⟩) rfl
  refine ⟨_, fd_22, ["_law_one"], He.glo_ok X G (c.d.fact 22 (f := .glo "_law_plain_root") rfl), F_22.kp, F_22.bindsN (fun _ _ _ _ _ _ us hl => match us, hl with | [_], _ => rfl), fn_ok F_22 sc__law_plain_root fun cdv A outer s H E hr => ?_⟩
  have nd := sc__law_plain_root.nd
  exact (mss_cons (ms_set 1 nd (me_callF (ok__law_whole_root X G c) hr (ma_cons (me_ix (me_var 0) me_int) ma_nil))) (mss_cons (ms_set 2 nd (me_callF (ok__law_whole_root X G c) hr (ma_cons (me_ix (me_var 0) me_int) ma_nil))) (mss_cons (ms_if (mt_bool (mw_or (mt_ne hr.units (me_mul (me_var 1) (me_var 1)) (me_ix (me_var 0) me_int)) (mw_or1 (mt_ne hr.units (me_mul (me_var 2) (me_var 2)) (me_ix (me_var 0) me_int))))) (mss_cons (ms_ret me_non) mss_nil) mss_nil) (mss_cons (ms_ret (me_callF (ok__law_share X G c) hr (ma_cons (me_var 1) (ma_cons (me_var 2) ma_nil)))) mss_nil))))
theorem ok__law_form : HasFn P w K mg base "_law_form" 4 d__law_form := by
  obtain ⟨fd_23, F_23⟩ := c.d.def_ 23 (d := ⟨("_law_form", none), "_law_form", "_law_form", defArgs s__law_form, defBody s__law_form, defScope s__law_form, [], []⟩) rfl
  refine ⟨_, fd_23, ["_law_number_here"], He.glo_ok X G (c.d.fact 23 (f := .glo "_law_form") rfl), F_23.kp, F_23.bindsN (fun _ _ _ _ _ _ us hl => match us, hl with | [_], _ => rfl), fn_ok F_23 sc__law_form fun cdv A outer s H E hr => ?_⟩
  have nd := sc__law_form.nd
  exact (mss_cons (ms_asg (me_var 0) (mg_tup rfl (mgs_cons (mg_name 1 nd) (mgs_cons (mg_name 2 nd) (mgs_cons (mg_name 3 nd) mgs_nil))))) (mss_cons (ms_set 4 nd (me_callF (ok__law_times X G c) hr (ma_cons (me_callF (ok__law_times X G c) hr (ma_cons (me_var 2) (ma_cons (me_var 2) ma_nil))) (ma_cons (me_var 3) ma_nil)))) (mss_cons (ms_set 5 nd (me_sub (mb_int (m_int X G c) (ma_cons (me_gt (me_ix (me_var 2) me_int) me_int) ma_nil)) (mb_int (m_int X G c) (ma_cons (me_lt (me_ix (me_var 2) me_int) me_int) ma_nil)))) (mss_cons (ms_set 6 nd (me_callF (ok__law_plain_root X G c) hr (ma_cons (me_var 4) ma_nil))) (mss_cons (ms_if (mt_isNot (me_var 6) me_non) (mss_cons (ms_ret (me_tup (ma_cons (me_callF (ok__law_plus X G c) hr (ma_cons (me_var 1) (ma_cons (me_callF (ok__law_times X G c) hr (ma_cons (me_tup (ma_cons (me_var 5) (ma_cons me_int ma_nil))) (ma_cons (me_var 6) ma_nil))) ma_nil))) (ma_cons me_int (ma_cons (me_tup (ma_cons me_int (ma_cons me_int ma_nil))) ma_nil))))) mss_nil) mss_nil) (mss_cons (ms_ret (me_tup (ma_cons (me_var 1) (ma_cons (me_var 5) (ma_cons (me_var 4) ma_nil))))) mss_nil))))))
theorem ok__law_reach : HasFn P w K mg base "_law_reach" 2 d__law_reach := by
  obtain ⟨fd_24, F_24⟩ := c.d.def_ 24 (d := ⟨("_law_reach", none), "_law_reach", "_law_reach", defArgs s__law_reach, defBody s__law_reach, defScope s__law_reach, [], []⟩) rfl
  refine ⟨_, fd_24, ["_law_form_here", "_law_scale"], He.glo_ok X G (c.d.fact 24 (f := .glo "_law_reach") rfl), F_24.kp, F_24.bindsN (fun _ _ _ _ _ _ us hl => match us, hl with | [_, _], _ => rfl), fn_ok F_24 sc__law_reach fun cdv A outer s H E hr => ?_⟩
  have nd := sc__law_reach.nd
  exact (mss_cons (ms_asg (me_var 0) (mg_tup rfl (mgs_cons (mg_name 2 nd) (mgs_cons (mg_name 3 nd) (mgs_cons (mg_name 4 nd) mgs_nil))))) (mss_cons (ms_set 5 nd (me_fdiv (me_mul (me_ix (me_var 2) me_int) (me_var 1)) (me_ix (me_var 2) me_int))) (mss_cons (ms_set 6 nd (me_callF (ok__law_whole_root X G c) hr (ma_cons (me_fdiv (me_mul (me_mul (me_ix (me_var 4) me_int) (me_var 1)) (me_var 1)) (me_ix (me_var 4) me_int)) ma_nil))) (mss_cons (ms_if (mt_lt (me_var 3) me_int) (mss_cons (ms_ret (me_tup (ma_cons (me_sub (me_sub (me_var 5) (me_var 6)) me_int) (ma_cons (me_sub (me_add (me_var 5) me_int) (me_var 6)) ma_nil)))) mss_nil) mss_nil) (mss_cons (ms_ret (me_tup (ma_cons (me_add (me_var 5) (me_mul (me_var 3) (me_var 6))) (ma_cons (me_add (me_add (me_var 5) me_int) (me_mul (me_var 3) (me_add (me_var 6) me_int))) ma_nil)))) mss_nil)))))
theorem ok__law_compare : HasFn P w K mg base "_law_compare" 5 d__law_compare := by
  obtain ⟨fd_25, F_25⟩ := c.d.def_ 25 (d := ⟨("_law_compare", none), "_law_compare", "_law_compare", defArgs s__law_compare, defBody s__law_compare, defScope s__law_compare, [], []⟩) rfl
  refine ⟨_, fd_25, ["_law_one", "_law_other_here"], He.glo_ok X G (c.d.fact 25 (f := .glo "_law_compare") rfl), F_25.kp, F_25.bindsN (fun _ _ _ _ _ _ us hl => match us, hl with | [_, _], _ => rfl), fn_ok F_25 sc__law_compare fun cdv A outer s H E hr => ?_⟩
  have nd := sc__law_compare.nd
  exact (mss_cons (ms_set 2 nd (me_callF (ok__law_form X G c) hr (ma_cons (me_var 0) ma_nil))) (mss_cons (ms_set 3 nd (me_callF (ok__law_form X G c) hr (ma_cons (me_var 1) ma_nil))) (mss_cons (ms_if (mt_eq hr.units (me_var 2) (me_var 3)) (mss_cons (ms_ret me_int) mss_nil) mss_nil) (mss_cons (ms_set 4 nd (me_pow me_int me_int)) (mss_cons (ms_for PassesOwn.never rfl (mi_range1 (by rfl) (m_range X G c) me_int) (mg_name 5 nd) (mss_cons (ms_set 6 nd (me_callF (ok__law_reach X G c) hr (ma_cons (me_var 2) (ma_cons (me_var 4) ma_nil)))) (mss_cons (ms_set 7 nd (me_callF (ok__law_reach X G c) hr (ma_cons (me_var 3) (ma_cons (me_var 4) ma_nil)))) (mss_cons (ms_if (mt_lt (me_ix (me_var 6) me_int) (me_ix (me_var 7) me_int)) (mss_cons (ms_ret (me_neg me_int)) mss_nil) mss_nil) (mss_cons (ms_if (mt_lt (me_ix (me_var 7) me_int) (me_ix (me_var 6) me_int)) (mss_cons (ms_ret me_int) mss_nil) mss_nil) (mss_cons (ms_set 4 nd (me_mul (me_var 4) (me_var 4))) mss_nil)))))) (mss_cons (ms_ret me_int) mss_nil))))))
theorem ok__law_number : HasFn P w K mg base "_law_number" 6 d__law_number := by
  obtain ⟨fd_26, F_26⟩ := c.d.def_ 26 (d := ⟨("_law_number", none), "_law_number", "_law_number", defArgs s__law_number, defBody s__law_number, defScope s__law_number, [], []⟩) rfl
  refine ⟨_, fd_26, ["_law_deck_here"], He.glo_ok X G (c.d.fact 26 (f := .glo "_law_number") rfl), F_26.kp, F_26.bindsN (fun _ _ _ _ _ _ us hl => match us, hl with | [_], _ => rfl), fn_ok F_26 sc__law_number fun cdv A outer s H E hr => ?_⟩
  have nd := sc__law_number.nd
  exact (mss_cons (ms_set 1 nd (me_callF (ok__law_fraction X G c) hr (ma_cons (me_var 0) ma_nil))) (mss_cons (ms_set 2 nd (me_callF (ok__law_fraction X G c) hr (ma_cons (me_var 0) ma_nil))) (mss_cons (ms_set 3 nd (me_callF (ok__law_take X G c) hr (ma_cons (me_var 0) (ma_cons me_int ma_nil)))) (mss_cons (ms_if (mt_eq hr.units (me_var 3) me_int) (mss_cons (ms_ret (me_tup (ma_cons (me_var 1) (ma_cons (me_tup (ma_cons me_int (ma_cons me_int ma_nil))) (ma_cons (me_tup (ma_cons me_int (ma_cons me_int ma_nil))) ma_nil))))) mss_nil) mss_nil) (mss_cons (ms_if (mt_eq hr.units (me_var 3) me_int) (mss_cons (ms_set 4 nd (me_callF (ok__law_share X G c) hr (ma_cons (me_callF (ok__law_take X G c) hr (ma_cons (me_var 0) (ma_cons me_int ma_nil))) (ma_cons (me_add me_int (me_callF (ok__law_take X G c) hr (ma_cons (me_var 0) (ma_cons me_int ma_nil)))) ma_nil)))) (mss_cons (ms_ret (me_tup (ma_cons (me_var 1) (ma_cons (me_var 2) (ma_cons (me_callF (ok__law_times X G c) hr (ma_cons (me_var 4) (ma_cons (me_var 4) ma_nil))) ma_nil))))) mss_nil)) mss_nil) (mss_cons (ms_set 5 nd (me_uix (mu_lst (ma_cons (me_callF (ok__law_take X G c) hr (ma_cons (me_var 0) (ma_cons me_int ma_nil))) (ma_cons (me_callF (ok__law_figures X G c) hr (ma_cons (me_var 0) ma_nil)) ma_nil))) (me_callF (ok__law_take X G c) hr (ma_cons (me_var 0) (ma_cons me_int ma_nil))))) (mss_cons (ms_ret (me_tup (ma_cons (me_var 1) (ma_cons (me_var 2) (ma_cons (me_callF (ok__law_share X G c) hr (ma_cons (me_var 5) (ma_cons (mb_max rfl (m_max X G c) (ma_cons me_int (ma_cons (me_uix (mu_lst (ma_cons me_int (ma_cons (me_callF (ok__law_figures X G c) hr (ma_cons (me_var 0) ma_nil)) ma_nil))) (me_callF (ok__law_take X G c) hr (ma_cons (me_var 0) (ma_cons me_int ma_nil)))) ma_nil))) ma_nil))) ma_nil))))) mss_nil)))))))
theorem ok__law_other : HasFn P w K mg base "_law_other" 7 d__law_other := by
  obtain ⟨fd_27, F_27⟩ := c.d.def_ 27 (d := ⟨("_law_other", none), "_law_other", "_law_other", defArgs s__law_other, defBody s__law_other, defScope s__law_other, [], []⟩) rfl
  refine ⟨_, fd_27, ["_law_deck_here", "_law_number_here"], He.glo_ok X G (c.d.fact 27 (f := .glo "_law_other") rfl), F_27.kp, F_27.bindsN (fun _ _ _ _ _ _ us hl => match us, hl with | [_, _], _ => rfl), fn_ok F_27 sc__law_other fun cdv A outer s H E hr => ?_⟩
  have nd := sc__law_other.nd
  exact (mss_cons (ms_asg (me_var 1) (mg_tup rfl (mgs_cons (mg_name 2 nd) (mgs_cons (mg_name 3 nd) (mgs_cons (mg_name 4 nd) mgs_nil))))) (mss_cons (ms_set 5 nd (me_callF (ok__law_take X G c) hr (ma_cons (me_var 0) (ma_cons me_int ma_nil)))) (mss_cons (ms_if (mt_lt (me_var 5) me_int) (mss_cons (ms_ret (me_callF (ok__law_number X G c) hr (ma_cons (me_var 0) ma_nil))) mss_nil) mss_nil) (mss_cons (ms_if (mt_eq hr.units (me_var 5) me_int) (mss_cons (ms_set 6 nd (me_callF (ok__law_share X G c) hr (ma_cons (me_add me_int (me_callF (ok__law_take X G c) hr (ma_cons (me_var 0) (ma_cons me_int ma_nil)))) (ma_cons (me_add me_int (me_callF (ok__law_take X G c) hr (ma_cons (me_var 0) (ma_cons me_int ma_nil)))) ma_nil)))) (mss_cons (ms_ret (me_tup (ma_cons (me_var 2) (ma_cons (me_callF (ok__law_times X G c) hr (ma_cons (me_var 3) (ma_cons (me_tup (ma_cons (me_ix (me_var 6) me_int) (ma_cons (me_ix (me_var 6) me_int) ma_nil))) ma_nil))) (ma_cons (me_callF (ok__law_times X G c) hr (ma_cons (me_var 4) (ma_cons (me_callF (ok__law_times X G c) hr (ma_cons (me_var 6) (ma_cons (me_var 6) ma_nil))) ma_nil))) ma_nil))))) mss_nil)) mss_nil) (mss_cons (ms_if (mt_eq hr.units (me_var 5) me_int) (mss_cons (ms_ret (me_tup (ma_cons (me_var 2) (ma_cons (me_tup (ma_cons (me_sub me_int (me_mul me_int (mb_int (m_int X G c) (ma_cons (me_lt (me_ix (me_var 3) me_int) me_int) ma_nil)))) (ma_cons me_int ma_nil))) (ma_cons (me_callF (ok__law_times X G c) hr (ma_cons (me_callF (ok__law_times X G c) hr (ma_cons (me_var 3) (ma_cons (me_var 3) ma_nil))) (ma_cons (me_var 4) ma_nil))) ma_nil))))) mss_nil) mss_nil) (mss_cons (ms_if (mt_eq hr.units (me_var 5) me_int) (mss_cons (ms_ret (me_tup (ma_cons (me_callF (ok__law_plus X G c) hr (ma_cons (me_var 2) (ma_cons (me_tup (ma_cons (me_sub me_int (me_mul me_int (me_callF (ok__law_take X G c) hr (ma_cons (me_var 0) (ma_cons me_int ma_nil))))) (ma_cons (me_sub me_int (me_callF (ok__law_take X G c) hr (ma_cons (me_var 0) (ma_cons me_int ma_nil)))) ma_nil))) ma_nil))) (ma_cons (me_var 3) (ma_cons (me_var 4) ma_nil))))) mss_nil) mss_nil) (mss_cons (ms_set 7 nd (me_callF (ok__law_reach X G c) hr (ma_cons (me_callF (ok__law_form X G c) hr (ma_cons (me_var 1) ma_nil)) (ma_cons me_int ma_nil)))) (mss_cons (ms_ret (me_tup (ma_cons (me_callF (ok__law_share X G c) hr (ma_cons (me_add (me_ix (me_var 7) me_int) (me_callF (ok__law_take X G c) hr (ma_cons (me_var 0) (ma_cons me_int ma_nil)))) (ma_cons me_int ma_nil))) (ma_cons (me_tup (ma_cons me_int (ma_cons me_int ma_nil))) (ma_cons (me_tup (ma_cons me_int (ma_cons me_int ma_nil))) ma_nil))))) mss_nil))))))))
theorem ok__law_right : HasFn P w K mg base "_law_right" 8 d__law_right := by
  obtain ⟨fd_28, F_28⟩ := c.d.def_ 28 (d := ⟨("_law_right", none), "_law_right", "_law_right", defArgs s__law_right, defBody s__law_right, defScope s__law_right, [], []⟩) rfl
  refine ⟨_, fd_28, ["_law_one", "_law_other_here"], He.glo_ok X G (c.d.fact 28 (f := .glo "_law_right") rfl), F_28.kp, F_28.bindsN (fun _ _ _ _ _ _ us hl => match us, hl with | [_, _], _ => rfl), fn_ok F_28 sc__law_right fun cdv A outer s H E hr => ?_⟩
  have nd := sc__law_right.nd
  exact (mss_cons (ms_set 2 nd (me_callF (ok_compare X G c) hr (ma_cons (me_var 0) (ma_cons (me_var 1) ma_nil)))) (mss_cons (ms_ret (me_and (mb_isi (m_isinstance X G c) (ma_cons (me_var 2) (ma_cons (me_ty (by rfl) (m_int X G c) (by decide +kernel)) ma_nil))) (me_and (me_not (mb_isi (m_isinstance X G c) (ma_cons (me_var 2) (ma_cons (me_ty (by rfl) (m_bool X G c) (by decide +kernel)) ma_nil)))) (me_one (me_eq hr.units (me_var 2) (me_callF (ok__law_compare X G c) hr (ma_cons (me_var 0) (ma_cons (me_var 1) ma_nil)))))))) mss_nil))
theorem ok__law_greater : HasFn P w K mg base "_law_greater" 4 d__law_greater := by
  obtain ⟨fd_29, F_29⟩ := c.d.def_ 29 (d := ⟨("_law_greater", none), "_law_greater", "_law_greater", defArgs s__law_greater, defBody s__law_greater, defScope s__law_greater, [], []⟩) rfl
  refine ⟨_, fd_29, ["_law_number_here", "_law_many"], He.glo_ok X G (c.d.fact 29 (f := .glo "_law_greater") rfl), F_29.kp, F_29.bindsN (fun _ _ _ _ _ _ us hl => match us, hl with | [_, _], _ => rfl), fn_ok F_29 sc__law_greater fun cdv A outer s H E hr => ?_⟩
  have nd := sc__law_greater.nd
  exact (mss_cons (ms_asg (me_var 0) (mg_tup rfl (mgs_cons (mg_name 2 nd) (mgs_cons (mg_name 3 nd) (mgs_cons (mg_name 4 nd) mgs_nil))))) (mss_cons (ms_ret (me_tup (ma_cons (me_callF (ok__law_times X G c) hr (ma_cons (me_var 2) (ma_cons (me_tup (ma_cons (me_var 1) (ma_cons me_int ma_nil))) ma_nil))) (ma_cons (me_callF (ok__law_times X G c) hr (ma_cons (me_var 3) (ma_cons (me_tup (ma_cons (me_var 1) (ma_cons me_int ma_nil))) ma_nil))) (ma_cons (me_var 4) ma_nil))))) mss_nil))
theorem fnl_law {f : Addr} {fd : FuncData} (F : FunD K "law" "law" (defArgs s_law) (defBody s_law) (defScope s_law) [] [] f fd) : FnOk P w K mg base CX0 9 f fd ["_law_script"] (spD ⟨K, mg⟩ d_law) := by
  refine fn_ok F sc_law fun cdv A outer s H E hr => ?_
  have nd := sc_law.nd
  exact (mss_cons (ms_set 1 nd (me_callF (ok__law_deck X G c) hr (ma_cons (me_var 0) ma_nil))) (mss_cons (ms_set 2 nd (me_uix (mu_lst (ma_cons me_int (ma_cons (me_add (me_pow me_int me_int) me_int) ma_nil))) (mb_int (m_int X G c) (ma_cons (me_eq hr.units (me_callF (ok__law_take X G c) hr (ma_cons (me_var 1) (ma_cons me_int ma_nil))) me_int) ma_nil)))) (mss_cons (ms_for PassesOwn.never rfl (mi_range1 (by rfl) (m_range X G c) me_int) (mg_name 3 nd) (mss_cons (ms_set 4 nd (me_callF (ok__law_number X G c) hr (ma_cons (me_var 1) ma_nil))) (mss_cons (ms_set 5 nd (me_callF (ok__law_greater X G c) hr (ma_cons (me_var 4) (ma_cons (me_var 2) ma_nil)))) (mss_cons (ms_set 6 nd (me_callF (ok__law_greater X G c) hr (ma_cons (me_callF (ok__law_other X G c) hr (ma_cons (me_var 1) (ma_cons (me_var 4) ma_nil))) (ma_cons (me_var 2) ma_nil)))) (mss_cons (ms_if (mt_bool (mw_or (mt_not (mt_val (me_callF (ok__law_right X G c) hr (ma_cons (me_var 5) (ma_cons (me_var 6) ma_nil))))) (mw_or (mt_not (mt_val (me_callF (ok__law_right X G c) hr (ma_cons (me_var 6) (ma_cons (me_var 5) ma_nil))))) (mw_or1 (mt_not (mt_val (me_callF (ok__law_right X G c) hr (ma_cons (me_var 5) (ma_cons (me_var 5) ma_nil))))))))) (mss_cons (ms_ret me_bl) mss_nil) mss_nil) mss_nil))))) (mss_cons (ms_ret me_bl) mss_nil))))
end
end Cl

namespace Cl
open PySem PySem.Spec PyProof.Rows L2 ML RT
local macro_rules | `(tactic| infer_instance) => `(tactic| with_reducible first
  | refine w_scons ?_ | refine kC_nx ?_ | refine kC_rt ?_ | refine w_asg ?_ | refine w_op ?_ | refine w_var (by with_unfolding_all rfl) ?_ | refine w_c0 ?_ | refine w_c1 ?_ | refine w_c ?_ | refine w_call ?_ | refine w_acons ?_ | refine w_anil ?_
  | (apply w_gname; (focus (repeat (first | exact SetR.z | apply SetR.s)))) | refine w_tup2 ?_ | refine wTup_p ?_ | refine wTup_q0 ?_ | refine wTup_q1 ?_ | refine wTup_q2 ?_ | refine wTup_qm1 ?_ | refine wTup_qm2 ?_ | refine wTup_q _ ?_ | refine wTup_any ?_ (by with_unfolding_all exact Nat.le_of_ble_eq_true rfl) | refine w_len ?_ (by with_unfolding_all exact Nat.le_of_ble_eq_true rfl) | refine w_ret ?_ | refine w_sif ?_ | refine w_asB ?_ | refine kAB_bl ?_ | refine w_snil ?_ | refine w_for ?_ | refine w_tru ?_
  | refine wTru_bl ?_ | refine wTru_int ?_ | refine wTru_non ?_ | refine w_tand ?_ | refine w_tor ?_ | refine w_tnot ?_ | refine w_eif ?_ | refine w_eand ?_ | refine w_eor ?_ | refine w_enot ?_ | refine w_un ?_
  | refine w_gtup (by with_unfolding_all rfl) ?_ | refine w_gtupT (by with_unfolding_all rfl) (by with_unfolding_all rfl) ?_ | refine w_gnil ?_ | refine w_gcons ?_ | refine w_par ?_ | (apply kP_2; (focus (repeat (first | exact SetR.z | apply SetR.s))); (focus (repeat (first | exact SetR.z | apply SetR.s))))
  | refine w_par3 ?_ | (apply kP3_3; (focus (repeat (first | exact SetR.z | apply SetR.s))); (focus (repeat (first | exact SetR.z | apply SetR.s))); (focus (repeat (first | exact SetR.z | apply SetR.s))))
  | refine w_own ?_ | refine w_ulst ?_ | refine w_uix ?_ | refine w_u ?_ | refine w_asgU ?_ | refine w_expr ?_ | refine w_retN ?_ | (apply w_ulc; (focus (repeat (first | exact WipeR.z | apply WipeR.s | exact NoneR.z | apply NoneR.s)))) | refine w_aug (by with_unfolding_all rfl) ?_ | refine w_mt ?_
  | refine w_add ?_ | refine w_addI ?_ | refine w_sub ?_ | refine w_neg ?_ | refine w_cmp ?_ | refine w_eqi ?_ | refine w_nei ?_ | refine w_eqq ?_ | refine w_neq ?_ | refine w_eqb ?_ | refine w_neb ?_ | refine w_isNN ?_ | refine w_isnNN ?_
  | refine w_ixq0 ?_ | refine w_ixq1 ?_ | refine w_ixp0 ?_ | refine w_ixp1 ?_ | refine w_ixp2 ?_ | refine w_ix0 ?_ | refine w_ix1 ?_ | refine w_ix2 ?_ | refine w_ix3 ?_
  | refine w_isN (by with_unfolding_all rfl) ?_ | refine w_isnN (by with_unfolding_all rfl) ?_
  | refine w_int ?_ | refine w_intb ?_ | refine w_abs ?_ | refine w_max ?_ | refine w_min ?_ | refine w_lent ?_ | refine w_tupUp ?_ | refine w_tupU ?_ | refine w_lenU ?_ | refine w_tupt ?_ | refine w_tyes ?_ | refine w_bk ?_ | refine w_ct ?_
  | refine wB_t ?_ | refine wB_f ?_ | refine wB_not ?_ | refine kL_nx ?_ | refine kL_ct ?_ | refine kL_bk ?_ | refine kL_rt ?_ | refine wI_u ?_
  | refine w_gtupL (by with_unfolding_all rfl) ?_ | refine w_put ?_ | refine w_sl ?_ | refine w_onone ?_ | refine w_pow18 ?_ | refine wSl_t ?_ | refine w_uli ?_ | refine wLi_t ?_ | refine wI_r3 ?_ | refine wI_seq ?_ | refine wI_zip2 ?_ | refine wZip_33 ?_ | refine wZip_t (by with_unfolding_all rfl) (by with_unfolding_all rfl) ?_ | refine wSeq_t (by with_unfolding_all rfl) ?_ | refine w_eqpp ?_ | refine w_rnil srcOk_nil ?_ | refine w_lcons srcOk_nil (by with_unfolding_all exact Nat.le_of_ble_eq_true rfl) ?_ | (apply w_lnil2 srcOk_nil; (focus ((try simp only [List.nil_append, List.cons_append]); rfl)))
  | refine w_isi (by with_unfolding_all rfl) (by first | exact kit_tt | exact kit_it | exact kit_bt | exact kit_st | exact kit_lt | exact kit_nt | exact kit_ii | exact kit_bi | exact kit_ti | exact kit_si | exact kit_ni | exact kit_ib | exact kit_bb | exact kit_tb | exact kit_sb | exact kit_nb | exact kit_ss | exact kit_is | exact kit_bs | exact kit_ts | exact kit_ns | exact kit_tl | exact kit_ll | exact kit_il | exact kit_nl) ?_)
local macro_rules | `(tactic| fail) => `(tactic| with_reducible first
  | refine w_scons ?_ | refine kC_nx ?_ | refine kC_rt ?_ | refine w_asg ?_ | refine w_op ?_ | refine w_var (by with_unfolding_all rfl) ?_ | refine w_c0 ?_ | refine w_c1 ?_ | refine w_c ?_ | refine w_call ?_ | refine w_acons ?_ | refine w_anil ?_
  | (apply w_gname; (focus (repeat (first | exact SetR.z | apply SetR.s)))) | refine w_tup2 ?_ | refine wTup_p ?_ | refine wTup_q0 ?_ | refine wTup_q1 ?_ | refine wTup_q2 ?_ | refine wTup_qm1 ?_ | refine wTup_qm2 ?_ | refine wTup_q _ ?_ | refine wTup_any ?_ (by with_unfolding_all exact Nat.le_of_ble_eq_true rfl) | refine w_len ?_ (by with_unfolding_all exact Nat.le_of_ble_eq_true rfl) | refine w_ret ?_ | refine w_asB ?_ | refine kAB_bl ?_ | refine w_snil ?_ | refine w_for ?_ | refine w_tru ?_
  | refine wTru_bl ?_ | refine wTru_int ?_ | refine wTru_non ?_ | refine w_tand ?_ | refine w_tor ?_ | refine w_tnot ?_ | refine w_eif ?_ | refine w_eand ?_ | refine w_eor ?_ | refine w_enot ?_ | refine w_un ?_
  | refine w_gtup (by with_unfolding_all rfl) ?_ | refine w_gtupT (by with_unfolding_all rfl) (by with_unfolding_all rfl) ?_ | refine w_gnil ?_ | refine w_gcons ?_ | refine w_par ?_ | (apply kP_2; (focus (repeat (first | exact SetR.z | apply SetR.s))); (focus (repeat (first | exact SetR.z | apply SetR.s))))
  | refine w_par3 ?_ | (apply kP3_3; (focus (repeat (first | exact SetR.z | apply SetR.s))); (focus (repeat (first | exact SetR.z | apply SetR.s))); (focus (repeat (first | exact SetR.z | apply SetR.s))))
  | refine w_own ?_ | refine w_ulst ?_ | refine w_uix ?_ | refine w_u ?_ | refine w_asgU ?_ | refine w_expr ?_ | refine w_retN ?_ | (apply w_ulc; (focus (repeat (first | exact WipeR.z | apply WipeR.s | exact NoneR.z | apply NoneR.s)))) | refine w_aug (by with_unfolding_all rfl) ?_ | refine w_mt ?_
  | refine w_add ?_ | refine w_addI ?_ | refine w_sub ?_ | refine w_neg ?_ | refine w_cmp ?_ | refine w_eqi ?_ | refine w_nei ?_ | refine w_eqq ?_ | refine w_neq ?_ | refine w_eqb ?_ | refine w_neb ?_ | refine w_isNN ?_ | refine w_isnNN ?_
  | refine w_ixq0 ?_ | refine w_ixq1 ?_ | refine w_ixp0 ?_ | refine w_ixp1 ?_ | refine w_ixp2 ?_ | refine w_ix0 ?_ | refine w_ix1 ?_ | refine w_ix2 ?_ | refine w_ix3 ?_
  | refine w_isN (by with_unfolding_all rfl) ?_ | refine w_isnN (by with_unfolding_all rfl) ?_
  | refine w_int ?_ | refine w_intb ?_ | refine w_abs ?_ | refine w_max ?_ | refine w_min ?_ | refine w_lent ?_ | refine w_tupUp ?_ | refine w_tupU ?_ | refine w_lenU ?_ | refine w_tupt ?_ | refine w_tyes ?_ | refine w_bk ?_ | refine w_ct ?_
  | refine wB_t ?_ | refine wB_f ?_ | refine wB_not ?_ | refine kL_nx ?_ | refine kL_ct ?_ | refine kL_bk ?_ | refine kL_rt ?_ | refine wI_u ?_
  | refine w_gtupL (by with_unfolding_all rfl) ?_ | refine w_put ?_ | refine w_sl ?_ | refine w_onone ?_ | refine w_pow18 ?_ | refine wSl_t ?_ | refine w_uli ?_ | refine wLi_t ?_ | refine wI_r3 ?_ | refine wI_seq ?_ | refine wI_zip2 ?_ | refine wZip_33 ?_ | refine wZip_t (by with_unfolding_all rfl) (by with_unfolding_all rfl) ?_ | refine wSeq_t (by with_unfolding_all rfl) ?_ | refine w_eqpp ?_ | refine w_rnil srcOk_nil ?_ | refine w_lcons srcOk_nil (by with_unfolding_all exact Nat.le_of_ble_eq_true rfl) ?_ | (apply w_lnil2 srcOk_nil; (focus ((try simp only [List.nil_append, List.cons_append]); rfl)))
  | refine w_isi (by with_unfolding_all rfl) (by first | exact kit_tt | exact kit_it | exact kit_bt | exact kit_st | exact kit_lt | exact kit_nt | exact kit_ii | exact kit_bi | exact kit_ti | exact kit_si | exact kit_ni | exact kit_ib | exact kit_bb | exact kit_tb | exact kit_sb | exact kit_nb | exact kit_ss | exact kit_is | exact kit_bs | exact kit_ts | exact kit_ns | exact kit_tl | exact kit_ll | exact kit_il | exact kit_nl) ?_)
local macro_rules | `(tactic| contradiction) => `(tactic| (repeat infer_instance))
local macro_rules | `(tactic| trivial) => `(tactic| (apply w_mk; (focus ((repeat (first | apply InitR.s | apply InitR.z)); repeat (first | exact RepR.z | apply RepR.s))); (focus rfl); contradiction))
local macro_rules | `(tactic| array_get_dec) => `(tactic| (apply Sz.mono; (focus (repeat (first | assumption | exact sz_0 (k := 1) | exact sz_1 (k := 1) | apply sz_neg | (apply sz_over; case h => assumption) | apply sz_mul | apply sz_add | apply sz_sub))); decide))
theorem h_frac : IsFrac p_frac := frac_ok (F := p_common_part) gcd1
theorem h_share : IsFrac d__law_share := frac_ok (F := d__law_gcd) gcd2
theorem h_take : IsTake d__law_take := take_ok (F := d__law_mixed) mixed_ok
theorem h_deck (ns : List Int) (h : ns.length ≤ 63) : ∃ parts, d__law_deck [.loc 0] [.rol (ns.map ML.D.int)] = some (.loc 2, dkS ns parts 0 0 []) := deck_ok ns h
theorem h_lplus : IsQ2 d__law_plus (· + ·) := plus_ok (F := d__law_share) h_share
theorem h_ltimes : IsQ2 d__law_times (· * ·) := times_ok (F := d__law_share) h_share
theorem h_cmp : IsCmpL p_compare := compare_okL (Fg := p_frac) h_frac
theorem w_take {m : Nat} {rest : List Ob} {S : Sto} {Q : ML.D → Sto → Prop} {k : Int} (h : Dk m rest S) (hm : m < 2 ^ 38) (hk : 0 < k) (wd : wideD k) (q : ∀ v T, 0 ≤ v → v < k → Dk (m + 1) rest T → Q (.int v) T) : wF d__law_take [.loc 2, .int k] S Q := by
  obtain ⟨v, T, a, b, c, d⟩ := h_take m rest S k h (by omega) hk wd
  exact w_F c (q v T a b d)
theorem w_ltimes {q r : Rat} {S : Sto} {Q : ML.D → Sto → Prop} (hq : Sz 4000 q) (hr : Sz 4000 r) (k : Q (rq (q * r)) S) : wF d__law_times [rq q, rq r] S Q := w_F (h_ltimes q r S hq hr) k
theorem w_lplus {q r : Rat} {S : Sto} {Q : ML.D → Sto → Prop} (hq : Sz 4000 q) (hr : Sz 4000 r) (k : Q (rq (q + r)) S) : wF d__law_plus [rq q, rq r] S Q := w_F (h_lplus q r S hq hr) k
/-! whole roots -/
theorem newton {n f : Int} (hn : 0 ≤ n) (hf : 0 < f) (h : n < f * f) : 0 ≤ (f + n / f) / 2 ∧ (f + n / f) / 2 < f ∧ n < ((f + n / f) / 2 + 1) * ((f + n / f) / 2 + 1) := by
  have g1 := Int.ediv_mul_le n (show f ≠ 0 by omega)
  have g2 := Int.lt_ediv_add_one_mul_self n hf
  have g0 : 0 ≤ n / f := Int.ediv_nonneg hn (by omega)
  generalize hg : n / f = g at *
  have gl : g < f := by
    refine Int.lt_of_not_ge fun c => ?_
    have := Int.mul_le_mul_of_nonneg_right c (show 0 ≤ f by omega)
    omega
  obtain ⟨y, hy⟩ : ∃ y, y = (f + g) / 2 := ⟨_, rfl⟩
  rw [← hy]
  have y1 : f + g + 1 ≤ 2 * (y + 1) := by omega
  refine ⟨by omega, by omega, ?_⟩
  have a1 : (f + g + 1) * (f + g + 1) ≤ (2 * (y + 1)) * (2 * (y + 1)) := Int.mul_le_mul y1 y1 (by omega) (by omega)
  have a2 : 0 ≤ (f - (g + 1)) * (f - (g + 1)) := by
    rcases Int.le_total 0 (f - (g + 1)) with h | h
    · exact Int.mul_nonneg h h
    · exact Int.mul_nonneg_of_nonpos_of_nonpos h h
  have a3 : (f + g + 1) * (f + g + 1) = (f - (g + 1)) * (f - (g + 1)) + 4 * ((g + 1) * f) := by grind
  have a4 : (2 * (y + 1)) * (2 * (y + 1)) = 4 * ((y + 1) * (y + 1)) := by grind
  omega
theorem w_whole {n : Int} {S : Sto} {Q : ML.D → Sto → Prop} (h0 : 0 ≤ n) (hn : n.natAbs < 2 ^ 16000) (q : ∀ r : Int, 0 ≤ r → r * r ≤ n → n < (r + 1) * (r + 1) → Q (.int r) S) : wF d__law_whole_root [.int n] S Q := by
  have small : ∀ f : Int, 0 ≤ f → f * f ≤ 4 * n + 1 → f.natAbs < 2 ^ 8002 := fun f f0 h => by
    refine Nat.lt_of_not_ge fun c => ?_
    have c1 : (2 : Nat) ^ 8002 * 2 ^ 8002 ≤ f.natAbs * f.natAbs := Nat.mul_le_mul c c
    rw [← Nat.pow_add] at c1
    have e1 : (f * f).natAbs = f.natAbs * f.natAbs := Int.natAbs_mul f f
    have e2 : (2 : Nat) ^ (8002 + 8002) = 16 * 2 ^ 16000 := by rw [show 8002 + 8002 = 4 + 16000 from rfl, Nat.pow_add]
    generalize (2 : Nat) ^ 16000 = B at *
    generalize (2 : Nat) ^ 8002 = C at *
    generalize (2 : Nat) ^ (8002 + 8002) = E at *
    have : 0 ≤ f * f := Int.mul_nonneg f0 f0
    omega
  have wm : ∀ f : Int, f.natAbs < 2 ^ 8002 → wideM f f := fun f h => wideM_of h h
  trivial
  refine w_while (fun e T => T = S ∧ ∃ f : Int, e = [some (.int n), some (.int f)] ∧ 1 ≤ f ∧ (f = 1 ∨ f * f ≤ 4 * n)) (fun e _ => match e with
    | [_, some (.int f)] => (n + 1 - f).toNat
    | _ => 0) ⟨rfl, 1, rfl, by decide, .inl rfl⟩ ?_
  rintro e T ⟨rfl, f, rfl, f1, f2⟩
  have fs := small f (by omega) (by rcases f2 with rfl | h <;> omega)
  contradiction
  refine w_mul (wm f fs) ?_
  contradiction
  cases hd : decide (f * f ≤ n) with
  | true =>
    have hd := of_decide_eq_true hd
    contradiction
    refine w_mul (wideM_of (b := 2) fs (by decide)) ?_
    contradiction
    have ff : f ≤ f * f := by
      have := Int.mul_le_mul_of_nonneg_right f1 (show 0 ≤ f by omega)
      omega
    refine ⟨⟨rfl, f * 2, rfl, by omega, .inr (by have h4 : f * 2 * (f * 2) = 4 * (f * f) := (by grind); omega)⟩, ?_⟩
    show (n + 1 - f * 2).toNat < (n + 1 - f).toNat
    omega
  | false =>
    have hd := of_decide_eq_false hd
    contradiction
    refine w_while (fun e U => U = T ∧ ∃ f : Int, e = [some (.int n), some (.int f)] ∧ 0 ≤ f ∧ n < (f + 1) * (f + 1) ∧ f.natAbs < 2 ^ 8002) (fun e _ => match e with
      | [_, some (.int f)] => f.toNat
      | _ => 0) ⟨rfl, f, rfl, by omega, (by have h4 : (f + 1) * (f + 1) = f * f + 2 * f + 1 := (by grind); omega), fs⟩ ?_
    rintro e U ⟨rfl, g, rfl, g0, g1, gs⟩
    contradiction
    refine w_mul (wm g gs) ?_
    contradiction
    cases hg : decide (g * g > n) with
    | true =>
      have hg := of_decide_eq_true hg
      have gp : 0 < g := by
        refine Int.lt_of_not_ge fun c => ?_
        have : g = 0 := by omega
        subst this
        omega
      obtain ⟨n1, n2, n3⟩ := newton h0 gp hg
      contradiction
      refine w_fdiv ⟨by omega, Nat.lt_of_lt_of_le (log2_lt gs (by decide)) (by decide)⟩ ?_
      contradiction
      refine w_fdiv ⟨by decide, by decide⟩ ?_
      contradiction
      rw [Int.fdiv_eq_ediv_of_nonneg _ (by omega), Int.fdiv_eq_ediv_of_nonneg _ (by omega)]
      refine ⟨⟨rfl, _, rfl, n1, n3, ?_⟩, ?_⟩
      · generalize (g + n / g) / 2 = y at *
        generalize (2 : Nat) ^ 8002 = C at *
        omega
      · show ((g + n / g) / 2).toNat < g.toNat
        omega
    | false =>
      have hg := of_decide_eq_false hg
      contradiction
      exact kR_same (q g g0 (by omega) g1)
theorem sq_inj {a b : Int} (ha : 0 ≤ a) (hb : 0 ≤ b) (h1 : a * a ≤ b * b) (h2 : b * b < (a + 1) * (a + 1)) : a = b := by
  refine Int.le_antisymm ?_ ?_
  · refine Int.le_of_not_gt fun c => ?_
    have := Int.mul_le_mul (show b + 1 ≤ a by omega) (show b + 1 ≤ a by omega) (by omega) (by omega)
    have e : (b + 1) * (b + 1) = b * b + 2 * b + 1 := by grind
    omega
  · refine Int.le_of_not_gt fun c => ?_
    have := Int.mul_le_mul (show a + 1 ≤ b by omega) (show a + 1 ≤ b by omega) (by omega) (by omega)
    omega
theorem w_plain {a : Rat} {S : Sto} {Q : ML.D → Sto → Prop} (h0 : 0 ≤ a) (ha : Sz 900 a) (q1 : ∀ t : Rat, 0 ≤ t → a = t * t → Sz 900 t → Q (rq t) S) (q2 : (∀ t : Rat, a ≠ t * t) → Q .non S) : wF d__law_plain_root [rq a] S Q := by
  have n0 : 0 ≤ a.num := Rat.num_nonneg.mpr h0
  have d0 : 0 < a.den := a.den_pos
  have big : ∀ x : Int, x.natAbs < 2 ^ 900 → x.natAbs < 2 ^ 16000 := fun x h => lt_mono h (by decide)
  trivial
  refine w_whole n0 (big _ ha.1) fun r r0 r1 r2 => ?_
  contradiction
  refine w_whole (by omega) (big _ (by simpa using ha.2)) fun s s0 s1 s2 => ?_
  have rs : r.natAbs < 2 ^ 900 := by
    have : r ≤ r * r := by
      rcases (show r = 0 ∨ 1 ≤ r by omega) with h | h
      · rw [h]; decide
      · have := Int.mul_le_mul_of_nonneg_right h r0
        omega
    have h := ha.1
    generalize (2 : Nat) ^ 900 = C at *
    omega
  have ss : s.natAbs < 2 ^ 900 := by
    have : s ≤ s * s := by
      rcases (show s = 0 ∨ 1 ≤ s by omega) with h | h
      · rw [h]; decide
      · have := Int.mul_le_mul_of_nonneg_right h s0
        omega
    have h := ha.2
    generalize (2 : Nat) ^ 900 = C at *
    omega
  contradiction
  refine w_mul (wideM_of rs rs) ?_
  contradiction
  have key : ∀ t : Rat, a = t * t → r * r = a.num ∧ s * s = a.den := fun t e => by
    obtain ⟨e1, e2⟩ := num_sq t
    rw [← e] at e1 e2
    have a1 : r = (t.num.natAbs : Int) := sq_inj r0 (by omega) (by rw [Int.natAbs_mul_self']; omega) (by rw [Int.natAbs_mul_self']; omega)
    have a2 : s = (t.den : Int) := sq_inj s0 (by omega) (by rw [e2] at s1; push_cast at s1; exact s1) (by rw [e2] at s2; push_cast at s2; exact s2)
    constructor
    · rw [a1, Int.natAbs_mul_self', e1]
    · rw [a2, e2]; push_cast; rfl
  cases c1 : decide (r * r = a.num) with
  | false =>
    have c1 := of_decide_eq_false c1
    contradiction
    exact kR_same (q2 fun t e => c1 (key t e).1)
  | true =>
    have c1 := of_decide_eq_true c1
    contradiction
    refine w_mul (wideM_of ss ss) ?_
    contradiction
    cases c2 : decide (s * s = (a.den : Int)) with
    | false =>
      have c2 := of_decide_eq_false c2
      contradiction
      exact kR_same (q2 fun t e => c2 (key t e).2)
    | true =>
      have c2 := of_decide_eq_true c2
      contradiction
      have sp : 0 < s := by
        rcases (show s = 0 ∨ 0 < s by omega) with h | h
        · rw [h] at c2; omega
        · exact h
      refine w_F (h_share r s S (by omega) (lt_mono ss (by decide))) ?_
      contradiction
      refine kR_same (q1 (Rat.divInt r s) ?_ ?_ (sz_div (by omega) rs ss))
      · rw [Rat.divInt_eq_div, Rat.div_def]
        exact Rat.mul_nonneg (Rat.intCast_nonneg.mpr r0) (by have := Rat.inv_pos.mpr (Rat.intCast_pos.mpr sp); grind)
      · rw [Rat.divInt_mul_divInt, c1, c2, Rat.num_divInt_den]
/-- a form as the law has it -/
structure Fo where
  p : Rat
  w : Int
  a : Rat
def Fo.D (f : Fo) : ML.D := .tup [rq f.p, .int f.w, rq f.a]
noncomputable def Fo.V (f : Fo) : Q := fun n => f.p + (f.w : Rat) * rt f.a n
structure Fo.G (f : Fo) : Prop where
  u : f.w = 1 ∨ f.w = -1 ∨ f.w = 0
  pl : Plain (f.w : Rat) f.a
  nn : 0 ≤ f.a
  zp : Sz 290 f.p
  za : Sz 290 f.a
theorem Fo.G.C {f : Fo} (h : f.G) : IsC f.V := (IsC.const _).add (qC _ h.nn)
theorem sz_sqrt {t a : Rat} {k : Nat} (e : a = t * t) (z : Sz (k + k) a) : Sz k t := by
  obtain ⟨e1, e2⟩ := num_sq t
  rw [← e] at e1 e2
  have a1 := z.1
  have a2 := z.2
  rw [e1, Int.natAbs_mul, Nat.pow_add] at a1
  rw [e2, Nat.pow_add] at a2
  have lt : ∀ x : Nat, x * x < 2 ^ k * 2 ^ k → x < 2 ^ k := fun x h => Nat.lt_of_not_ge fun c => Nat.not_lt_of_ge (Nat.mul_le_mul c c) h
  exact ⟨lt _ a1, lt _ a2⟩
theorem w_form {p q d : Rat} {S : Sto} {Q : ML.D → Sto → Prop} (hd : 0 ≤ d) (zp : Sz 145 p) (zq : Sz 125 q) (zd : Sz 60 d) (zs : Sz 286 (q * q * d)) (k : ∀ f : Fo, f.G → sg (fun n => V p q d n - f.V n) = 0 → Q f.D S) : wF d__law_form [rn p q d] S Q := by
  rw [show rn p q d = .tup [rq p, rq q, rq d] from rfl]
  have hs : 0 ≤ q * q * d := Rat.mul_nonneg (sq_nn q) hd
  trivial
  refine w_ltimes (zq.mono (by decide)) (zq.mono (by decide)) ?_
  contradiction
  refine w_ltimes ((sz_mul zq zq).mono (by decide)) (zd.mono (by decide)) ?_
  contradiction
  have wy : ∀ w : Int, (w = 1 ∧ 0 < q) ∨ (w = -1 ∧ q < 0) ∨ (w = 0 ∧ q = 0) → (w : Rat) = wayQ q := fun w h => by
    unfold wayQ
    rcases h with ⟨rfl, h⟩ | ⟨rfl, h⟩ | ⟨rfl, h⟩
    · rw [if_pos h]; rfl
    · rw [if_neg (by grind), if_pos h]; rfl
    · rw [if_neg (by grind), if_neg (by grind)]; rfl
  obtain ⟨w, hw, hc⟩ : ∃ w : Int, (if decide (0 < q.num) = true then (1 : Int) else 0) - (if decide (q.num < 0) = true then (1 : Int) else 0) = w ∧ ((w = 1 ∧ 0 < q) ∨ (w = -1 ∧ q < 0) ∨ (w = 0 ∧ q = 0)) := by
    rcases Int.lt_trichotomy q.num 0 with h | h | h
    · refine ⟨-1, by rw [show decide (0 < q.num) = false from decide_eq_false (by omega), show decide (q.num < 0) = true from decide_eq_true h]; rfl, .inr (.inl ⟨rfl, ?_⟩)⟩
      refine Rat.not_le.mp fun c => ?_
      have := Rat.num_nonneg.mpr c
      omega
    · refine ⟨0, by rw [show decide (0 < q.num) = false from decide_eq_false (by omega), show decide (q.num < 0) = false from decide_eq_false (by omega)]; rfl, .inr (.inr ⟨rfl, Rat.num_eq_zero.mp h⟩)⟩
    · refine ⟨1, by rw [show decide (0 < q.num) = true from decide_eq_true h, show decide (q.num < 0) = false from decide_eq_false (by omega)]; rfl, .inl ⟨rfl, ?_⟩⟩
      refine Rat.not_le.mp fun c => ?_
      rcases (show q = 0 ∨ 0 < -q by grind) with e | e
      · rw [e] at h; exact absurd h (by decide)
      · have := Rat.num_nonneg.mpr (show 0 ≤ -q by grind)
        rw [Rat.neg_num] at this
        omega
  rw [hw]
  have hq := wy w hc
  have zw : Sz 1 (w : Rat) := by rcases hc with ⟨rfl, -⟩ | ⟨rfl, -⟩ | ⟨rfl, -⟩ <;> exact ⟨by decide, by decide⟩
  have uw : w = 1 ∨ w = -1 ∨ w = 0 := by rcases hc with ⟨h, -⟩ | ⟨h, -⟩ | ⟨h, -⟩ <;> simp [h]
  refine w_plain hs (zs.mono (by decide)) (fun t t0 ht zt => ?_) (fun ht => ?_)
  · have zt2 : Sz 143 t := sz_sqrt ht (zs.mono (by decide))
    contradiction
    rw [show ML.D.tup [.int w, .int 1] = rq (w : Rat) from rfl]
    refine w_ltimes (zw.mono (by decide)) (zt.mono (by decide)) ?_
    contradiction
    refine w_lplus (zp.mono (by decide)) ((sz_mul zw zt2).mono (by decide)) ?_
    contradiction
    refine kR_same (k ⟨p + w * t, 0, 0⟩ ⟨.inr (.inr rfl), .inl ⟨rfl, rfl⟩, Rat.le_refl, (sz_add zp (sz_mul zw zt2)).mono (by decide), sz_0⟩ ?_)
    have := form_plain p q hd t0 ht
    rw [← hq] at this
    exact this
  · contradiction
    refine kR_same (k ⟨p, w, q * q * d⟩ ⟨uw, .inr ⟨?_, ?_, ht⟩, hs, zp.mono (by decide), zs.mono (by decide)⟩ ?_)
    · rcases hc with ⟨h, -⟩ | ⟨h, -⟩ | ⟨-, h⟩
      · left; rw [h]; rfl
      · right; rw [h]; rfl
      · exact absurd (by rw [h]; grind) (ht 0)
    · have := ht 0
      grind
    · have := form_root p q hd
      rw [← hq] at this
      exact this
theorem fdiv_between {n s : Int} {d : Nat} {a : Rat} (ha : a * d = n) (hd : 0 < d) (hs : 0 ≤ s) : (((n * s).fdiv d : Int) : Rat) ≤ a * s ∧ a * s < (((n * s).fdiv d : Int) : Rat) + 1 := by
  have g1 := Int.ediv_mul_le (n * s) (show (d : Int) ≠ 0 by omega)
  have g2 := Int.lt_ediv_add_one_mul_self (n * s) (show (0 : Int) < d by omega)
  rw [Int.fdiv_eq_ediv_of_nonneg _ (by omega)]
  generalize (n * s) / (d : Int) = l at *
  have dp : (0 : Rat) < (d : Rat) := by exact_mod_cast hd
  have a1 := Rat.intCast_le_intCast.mpr g1
  have a2 := Rat.intCast_lt_intCast.mpr g2
  push_cast at a1 a2
  rw [← ha] at a1 a2
  constructor
  · refine Rat.not_lt.mp fun c => ?_
    have := Rat.mul_pos (a := (l : Rat) - a * s) (b := d) (by grind) dp
    grind
  · refine Rat.not_le.mp fun c => ?_
    have := Rat.mul_nonneg (a := a * s - (l + 1)) (b := d) (by grind) (by grind)
    grind
theorem w_reach {f : Fo} (g : f.G) {s : Int} {S : Sto} {Q : ML.D → Sto → Prop} (s0 : 0 < s) (sb : s.natAbs < 2 ^ 7000) (k : ∀ lo hi : Int, hi ≤ lo + 2 → Btw f.V s lo hi → Q (.tup [.int lo, .int hi]) S) : wF d__law_reach [f.D, .int s] S Q := by
  rw [show f.D = .tup [rq f.p, .int f.w, rq f.a] from rfl]
  have zp := g.zp.1
  have za := g.za.1
  have sR : (0 : Rat) < (s : Rat) := Rat.intCast_pos.mpr s0
  trivial
  refine w_mul (wideM_of (lt_mono zp (show 290 ≤ 300 by decide)) sb) ?_
  contradiction
  refine w_fdiv ⟨by have := f.p.den_pos; omega, Nat.lt_of_lt_of_le (log2_lt (n := ((f.p.den : Nat) : Int).natAbs) (k := 290) (by simpa using g.zp.2) (by decide)) (by decide)⟩ ?_
  contradiction
  refine w_mul (wideM_of za sb) ?_
  contradiction
  have b1 : (f.a.num * s).natAbs < 2 ^ (290 + 7000) := mul_lt za sb
  refine w_mul (wideM_of b1 sb) ?_
  contradiction
  have b2 : (f.a.num * s * s).natAbs < 2 ^ (290 + 7000 + 7000) := mul_lt b1 sb
  refine w_fdiv ⟨by have := f.a.den_pos; omega, Nat.lt_of_lt_of_le (log2_lt (n := ((f.a.den : Nat) : Int).natAbs) (k := 290) (by simpa using g.za.2) (by decide)) (by decide)⟩ ?_
  contradiction
  have n0 : 0 ≤ f.a.num := Rat.num_nonneg.mpr g.nn
  have m0 : 0 ≤ f.a.num * s * s := Int.mul_nonneg (Int.mul_nonneg n0 (by omega)) (by omega)
  have d0 : (0 : Int) < f.a.den := by have := f.a.den_pos; omega
  have mb : ((f.a.num * s * s).fdiv f.a.den).natAbs < 2 ^ 16000 := by
    rw [Int.fdiv_eq_ediv_of_nonneg _ (by omega)]
    have a1 := Int.ediv_le_self (f.a.den : Int) m0
    have a2 := Int.ediv_nonneg m0 (show (0 : Int) ≤ f.a.den by omega)
    have b3 : (f.a.num * s * s).natAbs < 2 ^ 16000 := lt_mono b2 (by decide)
    generalize (2 : Nat) ^ 16000 = C at *
    omega
  have mn : 0 ≤ (f.a.num * s * s).fdiv f.a.den := by
    rw [Int.fdiv_eq_ediv_of_nonneg _ (by omega)]
    exact Int.ediv_nonneg m0 (by omega)
  refine w_whole mn mb fun r r0 r1 r2 => ?_
  obtain ⟨p1, p2⟩ := fdiv_between (q_mul_den f.p) f.p.den_pos (show 0 ≤ s by omega)
  obtain ⟨q1, q2⟩ := fdiv_between (s := s * s) (q_mul_den f.a) f.a.den_pos (Int.mul_nonneg (by omega) (by omega))
  rw [← Int.mul_assoc] at q1 q2
  have rb : r.natAbs < 2 ^ 16000 := by
    have : r ≤ r * r := by
      rcases (show r = 0 ∨ 1 ≤ r by omega) with h | h
      · rw [h]; decide
      · have := Int.mul_le_mul_of_nonneg_right h r0
        omega
    generalize (2 : Nat) ^ 16000 = C at *
    omega
  have rb1 : (r + 1).natAbs < 2 ^ 16001 := add_lt rb (show (1 : Int).natAbs < 2 ^ 16000 from Nat.lt_of_lt_of_le (by decide : 1 < 2 ^ 1) (Nat.pow_le_pow_right (by decide) (by decide)))
  generalize (f.a.num * s * s).fdiv f.a.den = m at *
  generalize (f.p.num * s).fdiv f.p.den = low at *
  have c1 := Rat.intCast_le_intCast.mpr r1
  have c2 := Rat.intCast_le_intCast.mpr (show m + 1 ≤ (r + 1) * (r + 1) by omega)
  have c0 : ((0 : Int) : Rat) ≤ (r : Rat) := Rat.intCast_le_intCast.mpr r0
  push_cast at c1 c2 q1 q2
  have uw : Unit3 (f.w : Rat) := by
    unfold Unit3
    rcases g.u with e | e | e <;> rw [e]
    · left; rfl
    · right; left; rfl
    · right; right; rfl
  obtain ⟨k1, k2⟩ := btw_form (p := f.p) (a := f.a) (s := (s : Rat)) (low := (low : Rat)) (root := (r : Rat)) uw g.nn sR p1 (by grind) c0 (by grind) (by grind)
  have wmul : ∀ w x : Int, (w = 1 ∨ w = 0) → x.natAbs < 2 ^ 16001 → wideM w x := fun w x h hx => wideM_of (a := 1) (b := 16001) (by rcases h with rfl | rfl <;> decide) hx
  contradiction
  rcases g.u with e | e | e
  · rw [e]
    have k2 : Btw f.V (s : Rat) ((low : Rat) + (f.w : Rat) * r) ((low : Rat) + 1 + (f.w : Rat) * ((r : Rat) + 1)) := k2 (.inl (by rw [e]; rfl))
    rw [show (f.w : Rat) = 1 from by rw [e]; rfl] at k2
    contradiction
    rw [show decide ((1 : Int) < 0) = false from rfl]
    contradiction
    refine w_mul (wmul 1 r (.inl rfl) (lt_mono rb (by decide))) ?_
    contradiction
    refine w_mul (wmul 1 (r + 1) (.inl rfl) rb1) ?_
    contradiction
    refine kR_same (k _ _ (by omega) ?_)
    push_cast
    exact k2
  · rw [e]
    have k1 := k1 (by rw [e]; rfl)
    contradiction
    rw [show decide ((-1 : Int) < 0) = true from rfl]
    contradiction
    refine kR_same (k _ _ (by omega) ?_)
    push_cast
    exact k1
  · rw [e]
    have k2 : Btw f.V (s : Rat) ((low : Rat) + (f.w : Rat) * r) ((low : Rat) + 1 + (f.w : Rat) * ((r : Rat) + 1)) := k2 (.inr (by rw [e]; rfl))
    rw [show (f.w : Rat) = 0 from by rw [e]; rfl] at k2
    contradiction
    rw [show decide ((0 : Int) < 0) = false from rfl]
    contradiction
    refine w_mul (wmul 0 r (.inr rfl) (lt_mono rb (by decide))) ?_
    contradiction
    refine w_mul (wmul 0 (r + 1) (.inr rfl) rb1) ?_
    contradiction
    refine kR_same (k _ _ (by omega) ?_)
    push_cast
    exact k2

noncomputable def cmpF (f g : Fo) : Int := sg fun n => f.V n - g.V n
def scale : Nat → Int
  | 0 => 10 ^ 8
  | i + 1 => scale i * scale i
theorem scale_b : ∀ i, i ≤ 8 → 0 < scale i ∧ (scale i).natAbs < 2 ^ 7000 := by decide +kernel
theorem scale_8 : (2 : Int) ^ 6700 < scale 8 := by decide +kernel
/-- forms that aren't one stand apart -/
theorem apart {f g : Fo} (hf : f.G) (hg : g.G) (nz : cmpF f g ≠ 0) : ∃ e : Rat, 0 ≤ e ∧ Ge (fun n => f.V n - g.V n) e ∧ 4 < (scale 8 : Rat) * e := by
  have W : (fun n => f.V n - g.V n) = fun n => (f.p - g.p) + ((f.w : Rat) * rt f.a n - (g.w : Rat) * rt g.a n) := funext fun n => by
    unfold Fo.V
    grind
  obtain ⟨E, hE⟩ : ∃ E, E = f.p.den * g.p.den * f.a.den * g.a.den := ⟨_, rfl⟩
  have E0 : 0 < E := by rw [hE]; exact Nat.mul_pos (Nat.mul_pos (Nat.mul_pos f.p.den_pos g.p.den_pos) f.a.den_pos) g.a.den_pos
  have Eb : E < 2 ^ 1160 := by
    have h1 := Nat.mul_lt_mul'' (Nat.mul_lt_mul'' (Nat.mul_lt_mul'' hf.zp.2 hg.zp.2) hf.za.2) hg.za.2
    rw [hE]
    refine Nat.lt_of_lt_of_le h1 ?_
    rw [← Nat.pow_add, ← Nat.pow_add, ← Nat.pow_add]
    exact Nat.le_refl _
  obtain ⟨M, hM⟩ : ∃ M : Nat, M = 2 ^ 291 := ⟨_, rfl⟩
  have bd : ∀ q : Rat, Sz 290 q → -((2 ^ 290 : Nat) : Rat) ≤ q ∧ q ≤ ((2 ^ 290 : Nat) : Rat) := fun q h => by
    have e := q_mul_den q
    have d1 : (1 : Rat) ≤ (q.den : Rat) := by exact_mod_cast q.den_pos
    have h1 := h.1
    generalize (2 : Nat) ^ 290 = C at *
    have n1 : (q.num : Rat) ≤ ((C : Int) : Rat) := Rat.intCast_le_intCast.mpr (by omega)
    have n2 : ((-(C : Int) : Int) : Rat) ≤ (q.num : Rat) := Rat.intCast_le_intCast.mpr (by omega)
    push_cast at n1 n2
    have c0 : (0 : Rat) ≤ (C : Rat) := by exact_mod_cast Nat.zero_le C
    constructor
    · refine Rat.not_lt.mp fun c => ?_
      have := Rat.mul_pos (a := -(C : Rat) - q) (b := q.den) (by grind) (by grind)
      have := Rat.mul_nonneg (a := (C : Rat)) (b := (q.den : Rat) - 1) c0 (by grind)
      grind
    · refine Rat.not_lt.mp fun c => ?_
      have := Rat.mul_pos (a := q - C) (b := q.den) (by grind) (by grind)
      have := Rat.mul_nonneg (a := (C : Rat)) (b := (q.den : Rat) - 1) c0 (by grind)
      grind
  have two : (M : Rat) = 2 * ((2 ^ 290 : Nat) : Rat) := by
    rw [hM, show (2 : Nat) ^ 291 = 2 * 2 ^ 290 from by rw [show 291 = 290 + 1 from rfl, Nat.pow_succ, Nat.mul_comm]]
    push_cast
    rfl
  have one : (1 : Rat) ≤ ((2 ^ 290 : Nat) : Rat) := by exact_mod_cast Nat.one_le_two_pow
  obtain ⟨p1, p2⟩ := bd _ hf.zp
  obtain ⟨p3, p4⟩ := bd _ hg.zp
  have a1 := (bd _ hf.za).2
  have a2 := (bd _ hg.za).2
  generalize ((2 ^ 290 : Nat) : Rat) = C at *
  have M1 : (1 : Rat) ≤ (M : Rat) := by rw [two]; grind
  have uf : Unit3 (f.w : Rat) := by
    unfold Unit3
    rcases hf.u with e | e | e <;> rw [e]
    · left; rfl
    · right; left; rfl
    · right; right; rfl
  have ug : Unit3 (g.w : Rat) := by
    unfold Unit3
    rcases hg.u with e | e | e <;> rw [e]
    · left; rfl
    · right; left; rfl
    · right; right; rfl
  have efp := q_mul_den f.p
  have egp := q_mul_den g.p
  have efa := q_mul_den f.a
  have ega := q_mul_den g.a
  have nz' : sg (fun n => (f.p - g.p) + ((f.w : Rat) * rt f.a n - (g.w : Rat) * rt g.a n)) ≠ 0 := by rw [← W]; exact nz
  have S := sep (M := (M : Rat)) E0 uf ug hf.nn hg.nn M1 (by rw [two]; grind) (by rw [two]; grind) (by rw [two]; constructor <;> grind)
    ⟨f.p.num * (g.p.den * f.a.den * g.a.den) - g.p.num * (f.p.den * f.a.den * g.a.den), by rw [hE]; push_cast; rw [← efp, ← egp]; grind⟩
    ⟨f.a.num * (f.p.den * g.p.den * g.a.den * (f.p.den * g.p.den * f.a.den * g.a.den)), by rw [hE]; push_cast; rw [← efa]; grind⟩
    ⟨g.a.num * (f.p.den * g.p.den * f.a.den * (f.p.den * g.p.den * f.a.den * g.a.den)), by rw [hE]; push_cast; rw [← ega]; grind⟩ nz'
  rw [← W] at S
  have eR : (0 : Rat) < (E : Rat) := by exact_mod_cast E0
  have k1 : (11 * (M : Rat) * M) * (11 * (M : Rat) * M)⁻¹ = 1 := Rat.mul_inv_cancel _ (by
    have := Rat.mul_pos (a := (M : Rat)) (b := M) (by grind) (by grind)
    grind)
  have k2 : (5 * (M : Rat)) * (5 * (M : Rat))⁻¹ = 1 := Rat.mul_inv_cancel _ (by grind)
  have k3 : (E : Rat) * (E : Rat)⁻¹ = 1 := Rat.mul_inv_cancel _ (by grind)
  have i1 : 0 < (11 * (M : Rat) * M)⁻¹ := Rat.inv_pos.mpr (by
    have := Rat.mul_pos (a := (M : Rat)) (b := M) (by grind) (by grind)
    grind)
  have i2 : 0 < (5 * (M : Rat))⁻¹ := Rat.inv_pos.mpr (by grind)
  have i3 : 0 < (E : Rat)⁻¹ := Rat.inv_pos.mpr eR
  rw [Rat.div_def, Rat.div_def, Rat.div_def, Rat.one_mul] at S
  have ep : 0 < (E : Rat)⁻¹ * (E : Rat)⁻¹ * (E : Rat)⁻¹ * (E : Rat)⁻¹ * (11 * (M : Rat) * M)⁻¹ * (5 * (M : Rat))⁻¹ := Rat.mul_pos (Rat.mul_pos (Rat.mul_pos (Rat.mul_pos (Rat.mul_pos i3 i3) i3) i3) i1) i2
  refine ⟨_, by grind, S, ?_⟩
  have un : (E : Rat)⁻¹ * (E : Rat)⁻¹ * (E : Rat)⁻¹ * (E : Rat)⁻¹ * (11 * (M : Rat) * M)⁻¹ * (5 * (M : Rat))⁻¹ * (55 * (M * M * M) * (E * E * E * E)) = 1 := by
    generalize (E : Rat)⁻¹ = x at *
    generalize (11 * (M : Rat) * M)⁻¹ = y at *
    generalize (5 * (M : Rat))⁻¹ = z at *
    generalize (M : Rat) = m at *
    generalize (E : Rat) = e at *
    have : x * x * x * x * y * z * (55 * (m * m * m) * (e * e * e * e)) = (e * x) * (e * x) * (e * x) * (e * x) * ((11 * m * m) * y) * ((5 * m) * z) := by grind
    rw [this, k1, k2, k3]
    grind
  have big : 4 * (55 * (M * M * M) * (E * E * E * E)) < 2 ^ 6700 := by
    have e2 := Nat.mul_lt_mul'' Eb Eb
    have e4 := Nat.mul_lt_mul'' e2 e2
    have m3 : M * M * M = 2 ^ 873 := by rw [hM, ← Nat.pow_add, ← Nat.pow_add]
    rw [m3]
    have e5 : E * E * E * E < 2 ^ 4640 := by
      rw [← Nat.pow_add, ← Nat.pow_add] at e4
      rw [show E * E * E * E = E * E * (E * E) from by rw [Nat.mul_assoc, Nat.mul_assoc]]
      exact e4
    have e6 : 4 * (55 * 2 ^ 873 * (E * E * E * E)) ≤ 2 ^ 8 * (2 ^ 873 * 2 ^ 4640) := by
      have := Nat.mul_le_mul_left (2 ^ 873) (Nat.le_of_lt e5)
      generalize (2 : Nat) ^ 4640 = X at *
      generalize E * E * E * E = Y at *
      generalize (2 : Nat) ^ 873 = Z at *
      have : 4 * (55 * Z * Y) = 220 * (Z * Y) := by rw [Nat.mul_assoc 55, ← Nat.mul_assoc 4]
      omega
    refine Nat.lt_of_le_of_lt e6 ?_
    rw [← Nat.pow_add, ← Nat.pow_add]
    exact Nat.pow_lt_pow_right (by decide) (by decide)
  have s8 := scale_8
  have bigR : (4 : Rat) * (55 * (M * M * M) * (E * E * E * E)) < (scale 8 : Rat) := by
    have b1 : ((4 * (55 * (M * M * M) * (E * E * E * E)) : Nat) : Int) < scale 8 := by
      have : ((4 * (55 * (M * M * M) * (E * E * E * E)) : Nat) : Int) < ((2 ^ 6700 : Nat) : Int) := by exact_mod_cast big
      have e : ((2 ^ 6700 : Nat) : Int) = 2 ^ 6700 := by push_cast; rfl
      rw [e] at this
      exact Int.lt_trans this s8
    have := Rat.intCast_lt_intCast.mpr b1
    push_cast at this
    exact this
  clear s8 big
  generalize (E : Rat)⁻¹ * (E : Rat)⁻¹ * (E : Rat)⁻¹ * (E : Rat)⁻¹ * (11 * (M : Rat) * M)⁻¹ * (5 * (M : Rat))⁻¹ = e at *
  generalize 55 * ((M : Rat) * M * M) * ((E : Rat) * E * E * E) = X at *
  generalize (scale 8 : Rat) = s at *
  have := Rat.mul_pos (a := s - 4 * X) (b := e) (by grind) ep
  grind

theorem rq_inj {q r : Rat} (h : rq q = rq r) : q = r := by
  have h1 := ML.D.tup.inj h
  injection h1 with a b
  injection b with b c
  have n := ML.D.int.inj a
  have d := ML.D.int.inj b
  exact Rat.ext n (by omega)
theorem V_of {p q d s r e : Rat} {f g : Fo} (hd : 0 ≤ d) (he : 0 ≤ e) (hf : f.G) (hg : g.G) (h1 : sg (fun n => V p q d n - f.V n) = 0) (h2 : sg (fun n => V s r e n - g.V n) = 0) : sg (fun n => V p q d n - V s r e n) = cmpF f g := by
  have c1 := V_C p q hd
  have c2 := V_C s r he
  refine sg_null (c1.sub c2) (hf.C.sub hg.C) ?_
  have := null_sub (c1.sub hf.C) (c2.sub hg.C) h1 h2
  rw [← this]
  congr 1
  funext n
  grind
theorem w_lcmp {p q d s r e' : Rat} {S : Sto} {Q : ML.D → Sto → Prop} (hd : 0 ≤ d) (he : 0 ≤ e') (zp : Sz 145 p) (zq : Sz 125 q) (zd : Sz 60 d) (zm : Sz 286 (q * q * d)) (zs : Sz 145 s) (zr : Sz 125 r) (ze : Sz 60 e') (zm' : Sz 286 (r * r * e'))
    (k : Q (.int (sg fun n => V p q d n - V s r e' n)) S) : wF d__law_compare [rn p q d, rn s r e'] S Q := by
  trivial
  refine w_form hd zp zq zd zm fun f hf e1 => ?_
  contradiction
  refine w_form he zs zr ze zm' fun g hg e2 => ?_
  rw [V_of hd he hf hg e1 e2] at k
  contradiction
  refine w_eqd (n := 3) (m := 3) rfl rfl fun b hb => ?_
  cases b with
  | true =>
    have h := ML.D.tup.inj (hb.mp rfl)
    injection h with h1 h
    injection h with h2 h
    injection h with h3 h
    have z : cmpF f g = 0 := by
      obtain ⟨fp, fw, fa⟩ := f
      obtain ⟨gp, gw, ga⟩ := g
      simp only at h1 h2 h3
      have a1 := rq_inj h1
      have a2 := ML.D.int.inj h2
      have a3 := rq_inj h3
      subst a1 a2 a3
      unfold cmpF
      rw [show (fun n => Fo.V ⟨fp, fw, fa⟩ n - Fo.V ⟨fp, fw, fa⟩ n) = fun _ => (0 : Rat) from funext fun n => by grind, sg_c]
      unfold sgq
      simp
    rw [z] at k
    contradiction
    exact kR_same k
  | false =>
    have nz : cmpF f g ≠ 0 := fun z => by
      have u := form_unique (p := f.p) (s := g.p) hf.pl hg.pl (by
        rw [← z]
        unfold cmpF
        congr 1
        funext n
        unfold Fo.V
        grind)
      have : f.D = g.D := by
        unfold Fo.D
        rw [u.1, u.2.2, show f.w = g.w from Rat.intCast_inj.mp u.2.1]
      have := hb.mpr this
      cases this
    obtain ⟨ep, ep0, ge, lt⟩ := apart hf hg nz
    have cf := hf.C
    have cg := hg.C
    contradiction
    refine w_2 (x_pow (by decide)) ?_
    contradiction
    rw [show ((10 : Int) ^ (8 : Int).toNat) = scale 0 from rfl]
    refine wI_rc ?_
    refine w_rinv (fun i e T => T = S ∧ i ≤ 8 ∧ ∃ x5 x6 x7, e = [some (rn p q d), some (rn s r e'), some f.D, some g.D, some (.int (scale i)), x5, x6, x7]) ⟨rfl, by decide, _, _, _, rfl⟩ (fun _ _ _ _ => srcOk_nil) ?_ ?_
    · rintro i d' e T hi ⟨rfl, i8, x5, x6, x7, rfl⟩
      obtain ⟨rfl, hi2⟩ := rngs_at hi
      obtain ⟨s0, sb⟩ := scale_b i i8
      have sR : (0 : Rat) < (scale i : Rat) := Rat.intCast_pos.mpr s0
      contradiction
      refine w_reach hf s0 sb fun lo1 hi1 w1 b1 => ?_
      contradiction
      refine w_reach hg s0 sb fun lo2 hi2' w2' b2 => ?_
      contradiction
      cases h1 : decide (hi1 < lo2) with
      | true =>
        have h1 := of_decide_eq_true h1
        have z : cmpF f g = -1 := btw_lt cf cg sR b1 b2 (Rat.intCast_lt_intCast.mpr h1)
        rw [z] at k
        contradiction
        exact kR_same k
      | false =>
        have h1 := of_decide_eq_false h1
        contradiction
        cases h2 : decide (hi2' < lo1) with
        | true =>
          have h2 := of_decide_eq_true h2
          have z0 := btw_lt cg cf sR b2 b1 (Rat.intCast_lt_intCast.mpr h2)
          have z : cmpF f g = 1 := by
            have := sg_neg (cg.sub cf)
            rw [z0] at this
            unfold cmpF
            rw [show (fun n => f.V n - g.V n) = fun n => -(g.V n - f.V n) from funext fun n => by grind, this]
            rfl
          rw [z] at k
          contradiction
          exact kR_same k
        | false =>
          have h2 := of_decide_eq_false h2
          have near := btw_near cf cg sR b1 b2 (by exact_mod_cast Rat.intCast_le_intCast.mpr w1) (by exact_mod_cast Rat.intCast_le_intCast.mpr w2') (Rat.intCast_le_intCast.mpr (by omega)) (Rat.intCast_le_intCast.mpr (by omega)) ep0 ge
          have i7 : i < 8 := by
            refine Nat.lt_of_le_of_ne i8 fun e8 => ?_
            rw [e8] at near
            grind
          contradiction
          refine w_mul (wideM_of sb sb) ?_
          contradiction
          exact ⟨rfl, i7, _, _, _, rfl⟩
    · rintro e T ⟨rfl, h8, -⟩
      rw [rngs_len] at h8
      exact absurd h8 (by decide)
end Cl

namespace Cl
open PySem PySem.Spec PyProof.Rows L2 ML RT
local macro_rules | `(tactic| infer_instance) => `(tactic| with_reducible first
  | refine w_scons ?_ | refine kC_nx ?_ | refine kC_rt ?_ | refine w_asg ?_ | refine w_op ?_ | refine w_var (by with_unfolding_all rfl) ?_ | refine w_c0 ?_ | refine w_c1 ?_ | refine w_c ?_ | refine w_call ?_ | refine w_acons ?_ | refine w_anil ?_
  | (apply w_gname; (focus (repeat (first | exact SetR.z | apply SetR.s)))) | refine w_tup2 ?_ | refine wTup_p ?_ | refine wTup_q0 ?_ | refine wTup_q1 ?_ | refine wTup_q2 ?_ | refine wTup_qm1 ?_ | refine wTup_qm2 ?_ | refine wTup_q _ ?_ | refine wTup_any ?_ (by with_unfolding_all exact Nat.le_of_ble_eq_true rfl) | refine w_len ?_ (by with_unfolding_all exact Nat.le_of_ble_eq_true rfl) | refine w_ret ?_ | refine w_sif ?_ | refine w_asB ?_ | refine kAB_bl ?_ | refine w_snil ?_ | refine w_for ?_ | refine w_tru ?_
  | refine wTru_bl ?_ | refine wTru_int ?_ | refine wTru_non ?_ | refine w_tand ?_ | refine w_tor ?_ | refine w_tnot ?_ | refine w_eif ?_ | refine w_eand ?_ | refine w_eor ?_ | refine w_enot ?_ | refine w_un ?_
  | refine w_gtup (by with_unfolding_all rfl) ?_ | refine w_gtupT (by with_unfolding_all rfl) (by with_unfolding_all rfl) ?_ | refine w_gnil ?_ | refine w_gcons ?_ | refine w_par ?_ | (apply kP_2; (focus (repeat (first | exact SetR.z | apply SetR.s))); (focus (repeat (first | exact SetR.z | apply SetR.s))))
  | refine w_par3 ?_ | (apply kP3_3; (focus (repeat (first | exact SetR.z | apply SetR.s))); (focus (repeat (first | exact SetR.z | apply SetR.s))); (focus (repeat (first | exact SetR.z | apply SetR.s))))
  | refine w_own ?_ | refine w_ulst ?_ | refine w_uix ?_ | refine w_u ?_ | refine w_asgU ?_ | refine w_expr ?_ | refine w_retN ?_ | (apply w_ulc; (focus (repeat (first | exact WipeR.z | apply WipeR.s | exact NoneR.z | apply NoneR.s)))) | refine w_aug (by with_unfolding_all rfl) ?_ | refine w_mt ?_
  | refine w_add ?_ | refine w_addI ?_ | refine w_sub ?_ | refine w_neg ?_ | refine w_cmp ?_ | refine w_eqi ?_ | refine w_nei ?_ | refine w_eqq ?_ | refine w_neq ?_ | refine w_eqb ?_ | refine w_neb ?_ | refine w_isNN ?_ | refine w_isnNN ?_
  | refine w_ixq0 ?_ | refine w_ixq1 ?_ | refine w_ixp0 ?_ | refine w_ixp1 ?_ | refine w_ixp2 ?_ | refine w_ix0 ?_ | refine w_ix1 ?_ | refine w_ix2 ?_ | refine w_ix3 ?_
  | refine w_isN (by with_unfolding_all rfl) ?_ | refine w_isnN (by with_unfolding_all rfl) ?_
  | refine w_int ?_ | refine w_intb ?_ | refine w_abs ?_ | refine w_max ?_ | refine w_min ?_ | refine w_lent ?_ | refine w_tupUp ?_ | refine w_tupU ?_ | refine w_lenU ?_ | refine w_tupt ?_ | refine w_tyes ?_ | refine w_bk ?_ | refine w_ct ?_
  | refine wB_t ?_ | refine wB_f ?_ | refine wB_not ?_ | refine kL_nx ?_ | refine kL_ct ?_ | refine kL_bk ?_ | refine kL_rt ?_ | refine wI_u ?_
  | refine w_gtupL (by with_unfolding_all rfl) ?_ | refine w_put ?_ | refine w_sl ?_ | refine w_onone ?_ | refine w_pow18 ?_ | refine wSl_t ?_ | refine w_uli ?_ | refine wLi_t ?_ | refine wI_r3 ?_ | refine wI_seq ?_ | refine wI_zip2 ?_ | refine wZip_33 ?_ | refine wZip_t (by with_unfolding_all rfl) (by with_unfolding_all rfl) ?_ | refine wSeq_t (by with_unfolding_all rfl) ?_ | refine w_eqpp ?_ | refine w_rnil srcOk_nil ?_ | refine w_lcons srcOk_nil (by with_unfolding_all exact Nat.le_of_ble_eq_true rfl) ?_ | (apply w_lnil2 srcOk_nil; (focus ((try simp only [List.nil_append, List.cons_append]); rfl)))
  | refine w_isi (by with_unfolding_all rfl) (by first | exact kit_tt | exact kit_it | exact kit_bt | exact kit_st | exact kit_lt | exact kit_nt | exact kit_ii | exact kit_bi | exact kit_ti | exact kit_si | exact kit_ni | exact kit_ib | exact kit_bb | exact kit_tb | exact kit_sb | exact kit_nb | exact kit_ss | exact kit_is | exact kit_bs | exact kit_ts | exact kit_ns | exact kit_tl | exact kit_ll | exact kit_il | exact kit_nl) ?_)
local macro_rules | `(tactic| fail) => `(tactic| with_reducible first
  | refine w_scons ?_ | refine kC_nx ?_ | refine kC_rt ?_ | refine w_asg ?_ | refine w_op ?_ | refine w_var (by with_unfolding_all rfl) ?_ | refine w_c0 ?_ | refine w_c1 ?_ | refine w_c ?_ | refine w_call ?_ | refine w_acons ?_ | refine w_anil ?_
  | (apply w_gname; (focus (repeat (first | exact SetR.z | apply SetR.s)))) | refine w_tup2 ?_ | refine wTup_p ?_ | refine wTup_q0 ?_ | refine wTup_q1 ?_ | refine wTup_q2 ?_ | refine wTup_qm1 ?_ | refine wTup_qm2 ?_ | refine wTup_q _ ?_ | refine wTup_any ?_ (by with_unfolding_all exact Nat.le_of_ble_eq_true rfl) | refine w_len ?_ (by with_unfolding_all exact Nat.le_of_ble_eq_true rfl) | refine w_ret ?_ | refine w_asB ?_ | refine kAB_bl ?_ | refine w_snil ?_ | refine w_for ?_ | refine w_tru ?_
  | refine wTru_bl ?_ | refine wTru_int ?_ | refine wTru_non ?_ | refine w_tand ?_ | refine w_tor ?_ | refine w_tnot ?_ | refine w_eif ?_ | refine w_eand ?_ | refine w_eor ?_ | refine w_enot ?_ | refine w_un ?_
  | refine w_gtup (by with_unfolding_all rfl) ?_ | refine w_gtupT (by with_unfolding_all rfl) (by with_unfolding_all rfl) ?_ | refine w_gnil ?_ | refine w_gcons ?_ | refine w_par ?_ | (apply kP_2; (focus (repeat (first | exact SetR.z | apply SetR.s))); (focus (repeat (first | exact SetR.z | apply SetR.s))))
  | refine w_par3 ?_ | (apply kP3_3; (focus (repeat (first | exact SetR.z | apply SetR.s))); (focus (repeat (first | exact SetR.z | apply SetR.s))); (focus (repeat (first | exact SetR.z | apply SetR.s))))
  | refine w_own ?_ | refine w_ulst ?_ | refine w_uix ?_ | refine w_u ?_ | refine w_asgU ?_ | refine w_expr ?_ | refine w_retN ?_ | (apply w_ulc; (focus (repeat (first | exact WipeR.z | apply WipeR.s | exact NoneR.z | apply NoneR.s)))) | refine w_aug (by with_unfolding_all rfl) ?_ | refine w_mt ?_
  | refine w_add ?_ | refine w_addI ?_ | refine w_sub ?_ | refine w_neg ?_ | refine w_cmp ?_ | refine w_eqi ?_ | refine w_nei ?_ | refine w_eqq ?_ | refine w_neq ?_ | refine w_eqb ?_ | refine w_neb ?_ | refine w_isNN ?_ | refine w_isnNN ?_
  | refine w_ixq0 ?_ | refine w_ixq1 ?_ | refine w_ixp0 ?_ | refine w_ixp1 ?_ | refine w_ixp2 ?_ | refine w_ix0 ?_ | refine w_ix1 ?_ | refine w_ix2 ?_ | refine w_ix3 ?_
  | refine w_isN (by with_unfolding_all rfl) ?_ | refine w_isnN (by with_unfolding_all rfl) ?_
  | refine w_int ?_ | refine w_intb ?_ | refine w_abs ?_ | refine w_max ?_ | refine w_min ?_ | refine w_lent ?_ | refine w_tupUp ?_ | refine w_tupU ?_ | refine w_lenU ?_ | refine w_tupt ?_ | refine w_tyes ?_ | refine w_bk ?_ | refine w_ct ?_
  | refine wB_t ?_ | refine wB_f ?_ | refine wB_not ?_ | refine kL_nx ?_ | refine kL_ct ?_ | refine kL_bk ?_ | refine kL_rt ?_ | refine wI_u ?_
  | refine w_gtupL (by with_unfolding_all rfl) ?_ | refine w_put ?_ | refine w_sl ?_ | refine w_onone ?_ | refine w_pow18 ?_ | refine wSl_t ?_ | refine w_uli ?_ | refine wLi_t ?_ | refine wI_r3 ?_ | refine wI_seq ?_ | refine wI_zip2 ?_ | refine wZip_33 ?_ | refine wZip_t (by with_unfolding_all rfl) (by with_unfolding_all rfl) ?_ | refine wSeq_t (by with_unfolding_all rfl) ?_ | refine w_eqpp ?_ | refine w_rnil srcOk_nil ?_ | refine w_lcons srcOk_nil (by with_unfolding_all exact Nat.le_of_ble_eq_true rfl) ?_ | (apply w_lnil2 srcOk_nil; (focus ((try simp only [List.nil_append, List.cons_append]); rfl)))
  | refine w_isi (by with_unfolding_all rfl) (by first | exact kit_tt | exact kit_it | exact kit_bt | exact kit_st | exact kit_lt | exact kit_nt | exact kit_ii | exact kit_bi | exact kit_ti | exact kit_si | exact kit_ni | exact kit_ib | exact kit_bb | exact kit_tb | exact kit_sb | exact kit_nb | exact kit_ss | exact kit_is | exact kit_bs | exact kit_ts | exact kit_ns | exact kit_tl | exact kit_ll | exact kit_il | exact kit_nl) ?_)
local macro_rules | `(tactic| contradiction) => `(tactic| (repeat infer_instance))
local macro_rules | `(tactic| trivial) => `(tactic| (apply w_mk; (focus ((repeat (first | apply InitR.s | apply InitR.z)); repeat (first | exact RepR.z | apply RepR.s))); (focus rfl); contradiction))
local macro_rules | `(tactic| array_get_dec) => `(tactic| (apply Sz.mono; (focus (repeat (first | assumption | exact sz_0 (k := 1) | exact sz_1 (k := 1) | apply sz_neg | (apply sz_over; case h => assumption) | apply sz_mul | apply sz_add | apply sz_sub))); decide))
theorem h_figures : IsFigures d__law_figures := figures_ok (F := d__law_take) h_take
theorem h_fraction : IsDraw d__law_fraction 20 8 := fraction_ok (Fg := d__law_figures) h_figures h_take h_share
structure Rn where
  p : Rat
  q : Rat
  e : Rat
def Rn.D (x : Rn) : ML.D := rn x.p x.q x.e
theorem rq_inv {r : Rat} (h : 0 < r) : ML.D.tup [.int r.den, .int r.num] = rq r⁻¹ := by
  have hn : 0 < r.num := Rat.intCast_pos.mp h
  have e1 : r⁻¹.num = r.den := by
    show (Rat.inv r).num = _
    unfold Rat.inv
    rw [dif_neg (by omega), dif_pos hn]
  have e2 : ((r⁻¹.den : Nat) : Int) = r.num := by
    show (((Rat.inv r).den : Nat) : Int) = _
    unfold Rat.inv
    rw [dif_neg (by omega), dif_pos hn]
    simp only
    omega
  rw [rq, e1, e2]
theorem sz_inv {r : Rat} {k : Nat} (h : 0 < r) (z : Sz k r) : Sz k r⁻¹ := by
  have hn : 0 < r.num := Rat.intCast_pos.mp h
  unfold Sz at *
  have e1 : r⁻¹.num = r.den := by
    show (Rat.inv r).num = _
    unfold Rat.inv
    rw [dif_neg (by omega), dif_pos hn]
  have e2 : ((r⁻¹.den : Nat) : Int) = r.num := by
    show (((Rat.inv r).den : Nat) : Int) = _
    unfold Rat.inv
    rw [dif_neg (by omega), dif_pos hn]
    simp only
    omega
  rw [e1]
  constructor <;> omega
theorem dnn {a b : Int} (ha : 0 ≤ a) (hb : 0 < b) : 0 ≤ Rat.divInt a b := by
  rw [Rat.divInt_eq_div, Rat.div_def]
  exact Rat.mul_nonneg (Rat.intCast_nonneg.mpr ha) (by have := Rat.inv_pos.mpr (Rat.intCast_pos.mpr hb); grind)
theorem dpos {a b : Int} (ha : 0 < a) (hb : 0 < b) : 0 < Rat.divInt a b := by
  rw [Rat.divInt_eq_div, Rat.div_def]
  exact Rat.mul_pos (Rat.intCast_pos.mpr ha) (Rat.inv_pos.mpr (Rat.intCast_pos.mpr hb))
theorem w_fraction {m : Nat} {rest : List Ob} {S : Sto} {Q : ML.D → Sto → Prop} (h : Dk m rest S) (hm : m < 2 ^ 36) (q : ∀ r T, Sz 20 r → Dk (m + 8) rest T → Q (rq r) T) : wF d__law_fraction [.loc 2] S Q := by
  obtain ⟨r, T, a, b, c⟩ := h_fraction m rest S h (by omega)
  exact w_F b (q r T a c)
theorem w_figures {m : Nat} {rest : List Ob} {S : Sto} {Q : ML.D → Sto → Prop} (h : Dk m rest S) (hm : m < 2 ^ 36) (q : ∀ v T, 0 ≤ v → v < 1000000 → Dk (m + 3) rest T → Q (.int v) T) : wF d__law_figures [.loc 2] S Q := by
  obtain ⟨r, T, a, a', b, c⟩ := h_figures m rest S h (by omega)
  exact w_F b (q r T a a' c)
theorem w_share {a b : Int} {S : Sto} {Q : ML.D → Sto → Prop} (hb : 0 < b) (h : b.natAbs < 2 ^ 30) (k : Q (rq (Rat.divInt a b)) S) : wF d__law_share [.int a, .int b] S Q := w_F (h_share a b S (by omega) (lt_mono h (by decide))) k
structure Rn.B0 (x : Rn) : Prop where
  nn : 0 ≤ x.e
  p : Sz 20 x.p
  q : Sz 20 x.q
  e : Sz 20 x.e
theorem w_number {m : Nat} {rest : List Ob} {S : Sto} {Q : ML.D → Sto → Prop} (h : Dk m rest S) (hm : m < 2 ^ 35) (k : ∀ (x : Rn) (T : Sto), x.B0 → Dk (m + 30) rest T → Q x.D T) : wF d__law_number [.loc 2] S Q := by
  trivial
  refine w_fraction h (by omega) fun p S1 zp h1 => ?_
  contradiction
  refine w_fraction h1 (by omega) fun q S2 zq h2 => ?_
  contradiction
  refine w_take h2 (by omega) (by decide) (by decide) fun v S3 v0 v1 h3 => ?_
  contradiction
  cases c0 : decide (v = 0) with
  | true =>
    contradiction
    exact kR_same (k ⟨p, 0, 0⟩ _ ⟨Rat.le_refl, zp, sz_0, sz_0⟩ (h3.mono (by omega))) (by rw [h3.len, h.len])
  | false =>
  contradiction
  cases c1 : decide (v = 1) with
  | true =>
    contradiction
    refine w_take h3 (by omega) (by decide) (by decide) fun a S4 a0 a1 h4 => ?_
    contradiction
    refine w_take h4 (by omega) (by decide) (by decide) fun b S5 b0 b1 h5 => ?_
    contradiction
    refine w_share (by omega) (by omega) ?_
    contradiction
    have zs : Sz 10 (Rat.divInt a (1 + b)) := sz_div (by omega) (by omega) (by omega)
    refine w_ltimes (zs.mono (by decide)) (zs.mono (by decide)) ?_
    contradiction
    have nn := dnn (a := a) (b := 1 + b) a0 (by omega)
    exact kR_same (k ⟨p, q, Rat.divInt a (1 + b) * Rat.divInt a (1 + b)⟩ _ ⟨Rat.mul_nonneg nn nn, zp, zq, sz_mul zs zs⟩ (h5.mono (by omega))) (by rw [h5.len, h.len])
  | false =>
    contradiction
    refine w_take h3 (by omega) (by decide) (by decide) fun a S4 a0 a1 h4 => ?_
    contradiction
    refine w_figures h4 (by omega) fun b S5 b0 b1 h5 => ?_
    contradiction
    refine w_take h5 (by omega) (by decide) (by decide) fun u S6 u0 u1 h6 => ?_
    contradiction
    obtain ⟨t, ht, t0, t1⟩ : ∃ t : Int, atI [ML.D.int a, .int b] u = some (.int t) ∧ 0 ≤ t ∧ t < 1000000 := by
      rcases (show u = 0 ∨ u = 1 by omega) with rfl | rfl
      · exact ⟨a, by rw [atI_0], a0, by omega⟩
      · exact ⟨b, by rw [atI_1], b0, b1⟩
    refine w_ix ht ?_
    contradiction
    refine w_figures h6 (by omega) fun c S7 c0 c1 h7 => ?_
    contradiction
    refine w_take h7 (by omega) (by decide) (by decide) fun w S8 w0 w1 h8 => ?_
    contradiction
    obtain ⟨z, hz, z0, z1⟩ : ∃ t : Int, atI [ML.D.int 1, .int c] w = some (.int t) ∧ 0 ≤ t ∧ t < 1000000 := by
      rcases (show w = 0 ∨ w = 1 by omega) with rfl | rfl
      · exact ⟨1, by rw [atI_0], by decide, by decide⟩
      · exact ⟨c, by rw [atI_1], c0, c1⟩
    refine w_ix hz ?_
    contradiction
    refine w_share (by omega) (by omega) ?_
    contradiction
    exact kR_same (k ⟨p, q, Rat.divInt t (max 1 z)⟩ _ ⟨dnn t0 (by omega), zp, zq, sz_div (by omega) (by omega) (by omega)⟩ (h8.mono (by omega))) (by rw [h8.len, h.len])

/-- a number as it is drawn -/
structure Rn.O (x : Rn) : Prop where
  nn : 0 ≤ x.e
  p : Sz 43 x.p
  q : Sz 25 x.q
  e : Sz 60 x.e
  s : Sz 86 (x.q * x.q * x.e)
theorem Rn.B0.O {x : Rn} (h : x.B0) : x.O := ⟨h.nn, h.p.mono (by decide), h.q.mono (by decide), h.e.mono (by decide), (sz_mul (sz_mul h.q h.q) h.e).mono (by decide)⟩
structure Rn.B (x : Rn) : Prop where
  nn : 0 ≤ x.e
  p : Sz 145 x.p
  q : Sz 125 x.q
  e : Sz 60 x.e
  s : Sz 286 (x.q * x.q * x.e)
theorem w_greater {x : Rn} {k : Int} {S : Sto} {Q : ML.D → Sto → Prop} (h : x.O) (hk : k = 1 ∨ k = 10 ^ 30 + 57) (q : ∀ y : Rn, y.B → Q y.D S) : wF d__law_greater [x.D, .int k] S Q := by
  have zk : Sz 100 (k : Rat) := by rcases hk with rfl | rfl <;> exact ⟨by decide, by decide⟩
  rw [show x.D = .tup [rq x.p, rq x.q, rq x.e] from rfl]
  trivial
  rw [show ML.D.tup [.int k, .int 1] = rq (k : Rat) from rfl]
  refine w_ltimes (h.p.mono (by decide)) (zk.mono (by decide)) ?_
  contradiction
  rw [show ML.D.tup [.int k, .int 1] = rq (k : Rat) from rfl]
  refine w_ltimes (h.q.mono (by decide)) (zk.mono (by decide)) ?_
  contradiction
  refine kR_same (q ⟨x.p * k, x.q * k, x.e⟩ ⟨h.nn, (sz_mul h.p zk).mono (by decide), (sz_mul h.q zk).mono (by decide), h.e, ?_⟩)
  have := (sz_mul (sz_mul h.s zk) zk).mono (show 86 + 100 + 100 ≤ 286 by decide)
  rw [show x.q * k * (x.q * k) * x.e = x.q * x.q * x.e * k * k by grind]
  exact this
theorem w_right {x y : Rn} {S : Sto} {Q : ML.D → Sto → Prop} (hx : x.B) (hy : y.B) (q : Q (.bl true) S) : wF d__law_right [x.D, y.D] S Q := by
  trivial
  refine w_F (h_cmp _ _ _ _ _ _ S hx.nn hy.nn (hx.p.mono (by decide)) (hx.q.mono (by decide)) (hx.e.mono (by decide)) (hy.p.mono (by decide)) (hy.q.mono (by decide)) (hy.e.mono (by decide))) ?_
  contradiction
  refine w_lcmp hx.nn hy.nn hx.p hx.q hx.e hx.s hy.p hy.q hy.e hy.s ?_
  contradiction
  have dd : ∀ k : Int, decide (k = k) = true := fun k => by simp
  rw [dd]
  exact kR_same q
theorem sz_bd {q : Rat} {k : Nat} (h : Sz k q) : -((2 ^ k : Nat) : Rat) ≤ q ∧ q ≤ ((2 ^ k : Nat) : Rat) := by
  have e := q_mul_den q
  have d1 : (1 : Rat) ≤ (q.den : Rat) := by exact_mod_cast q.den_pos
  have h1 := h.1
  generalize (2 : Nat) ^ k = C at *
  have n1 : (q.num : Rat) ≤ ((C : Int) : Rat) := Rat.intCast_le_intCast.mpr (by omega)
  have n2 : ((-(C : Int) : Int) : Rat) ≤ (q.num : Rat) := Rat.intCast_le_intCast.mpr (by omega)
  push_cast at n1 n2
  have c0 : (0 : Rat) ≤ (C : Rat) := by exact_mod_cast Nat.zero_le C
  constructor
  · refine Rat.not_lt.mp fun c => ?_
    have := Rat.mul_pos (a := -(C : Rat) - q) (b := q.den) (by grind) (by grind)
    have := Rat.mul_nonneg (a := (C : Rat)) (b := (q.den : Rat) - 1) c0 (by grind)
    grind
  · refine Rat.not_lt.mp fun c => ?_
    have := Rat.mul_pos (a := q - C) (b := q.den) (by grind) (by grind)
    have := Rat.mul_nonneg (a := (C : Rat)) (b := (q.den : Rat) - 1) c0 (by grind)
    grind
theorem val_le {x : Rn} (h : x.B0) (n : Nat) : -2147483648 ≤ V x.p x.q x.e n ∧ V x.p x.q x.e n ≤ 2147483648 := by
  obtain ⟨a1, a2⟩ := sz_bd h.p
  obtain ⟨b1, b2⟩ := sz_bd h.q
  obtain ⟨-, c2⟩ := sz_bd h.e
  obtain ⟨r0, r1, -⟩ := rt_nn h.nn n
  rw [show ((2 ^ 20 : Nat) : Rat) = 1048576 from rfl] at *
  have r2 : rt x.e n ≤ 1024 := by
    refine Rat.not_lt.mp fun c => ?_
    have := Rat.mul_pos (a := rt x.e n - 1024) (b := rt x.e n + 1024) (by grind) (by grind)
    grind
  have m1 := Rat.mul_nonneg (a := 1048576 - x.q) (b := rt x.e n) (by grind) r0
  have m2 := Rat.mul_nonneg (a := 1048576 + x.q) (b := rt x.e n) (by grind) r0
  unfold ML.V
  constructor <;> grind
theorem lo_le {x : Rn} {f : Fo} {lo hi : Int} (hx : x.B0) (hf : f.G) (e : sg (fun n => V x.p x.q x.e n - f.V n) = 0) (w : hi ≤ lo + 2) (b : Btw f.V ((1000 : Int) : Rat) lo hi) : (lo : Int).natAbs ≤ 2147483648002 := by
  have cV := V_C x.p x.q hx.nn
  have cF := hf.C
  have h1 : 0 ≤ sg fun n => 2147483648 - f.V n := by
    rw [sg_null (f := fun n => 2147483648 - f.V n) (g := fun n => 2147483648 - V x.p x.q x.e n) ((IsC.const _).sub cF) ((IsC.const _).sub cV) (by
      rw [← e]
      congr 1
      funext n
      grind)]
    exact sg_nn ((IsC.const _).sub cV) fun n => by have := val_le hx n; grind
  have h2 : 0 ≤ sg fun n => f.V n + 2147483648 := by
    rw [sg_null (f := fun n => f.V n + 2147483648) (g := fun n => V x.p x.q x.e n + 2147483648) (cF.add (IsC.const _)) (cV.add (IsC.const _)) (by
      have := sg_neg (cV.sub cF)
      rw [e] at this
      rw [show (fun n => (f.V n + 2147483648) - (V x.p x.q x.e n + 2147483648)) = fun n => -(V x.p x.q x.e n - f.V n) from funext fun n => by grind, this]
      rfl)]
    exact sg_nn (cV.add (IsC.const _)) fun n => by have := val_le hx n; grind
  have s0 : (0 : Rat) ≤ ((1000 : Int) : Rat) := by decide +kernel
  have k1 := nn_add ((IsC.const ((1000 : Int) : Rat)).mul ((IsC.const 2147483648).sub cF)) (((IsC.const ((1000 : Int) : Rat)).mul cF).sub (IsC.const (lo : Rat))) (nn_mul (IsC.const _) ((IsC.const 2147483648).sub cF) (nn_const s0) h1) b.l
  have k2 := nn_add ((IsC.const ((1000 : Int) : Rat)).mul (cF.add (IsC.const 2147483648))) ((IsC.const (hi : Rat)).sub ((IsC.const ((1000 : Int) : Rat)).mul cF)) (nn_mul (IsC.const _) (cF.add (IsC.const 2147483648)) (nn_const s0) h2) b.h
  rw [show (fun n => ((1000 : Int) : Rat) * (2147483648 - f.V n) + (((1000 : Int) : Rat) * f.V n - lo)) = fun _ => ((1000 : Int) : Rat) * 2147483648 - lo from funext fun n => by grind] at k1
  rw [show (fun n => ((1000 : Int) : Rat) * (f.V n + 2147483648) + ((hi : Rat) - ((1000 : Int) : Rat) * f.V n)) = fun _ => (hi : Rat) + ((1000 : Int) : Rat) * 2147483648 from funext fun n => by grind] at k2
  have a1 := const_nn k1
  have a2 := const_nn k2
  rw [show ((1000 : Int) : Rat) * 2147483648 = ((2147483648000 : Int) : Rat) from by decide +kernel] at a1 a2
  have b1 : (lo : Rat) ≤ ((2147483648000 : Int) : Rat) := by grind
  have b2 : ((-2147483648000 : Int) : Rat) ≤ (hi : Rat) := by
    rw [show ((-2147483648000 : Int) : Rat) = -((2147483648000 : Int) : Rat) from by decide +kernel]
    grind
  have c1 := Rat.intCast_le_intCast.mp b1
  have c2 := Rat.intCast_le_intCast.mp b2
  omega
theorem one_over {s n : Int} (hs : s = 1 ∨ s = -1) (h0 : 0 < n) (h1 : n < 1000000) : ∃ r : Rat, ML.D.tup [.int s, .int n] = rq r ∧ Sz 20 r := by
  have co : s.natAbs.Coprime n.toNat := by rcases hs with rfl | rfl <;> exact Nat.coprime_one_left _
  refine ⟨⟨s, n.toNat, by omega, co⟩, ?_, ?_⟩
  · show _ = ML.D.tup [.int s, .int ((n.toNat : Nat) : Int)]
    rw [Int.toNat_of_nonneg (by omega)]
  · exact ⟨by show s.natAbs < _; rcases hs with rfl | rfl <;> decide, by show n.toNat < _; omega⟩
theorem w_other {m : Nat} {rest : List Ob} {x : Rn} {S : Sto} {Q : ML.D → Sto → Prop} (h : Dk m rest S) (hm : m < 2 ^ 34) (hx : x.B0) (k : ∀ (y : Rn) (T : Sto), y.O → Dk (m + 40) rest T → Q y.D T) : wF d__law_other [.loc 2, x.D] S Q := by
  rw [show x.D = .tup [rq x.p, rq x.q, rq x.e] from rfl]
  trivial
  refine w_take h (by omega) (by decide) (by decide) fun v S1 v0 v1 h1 => ?_
  contradiction
  cases c0 : decide (v < 2) with
  | true =>
    contradiction
    refine w_number h1 (by omega) fun y T hy hT => ?_
    contradiction
    exact kR_same (k y T hy.O (hT.mono (by omega))) (by rw [hT.len, h.len])
  | false =>
  contradiction
  cases c1 : decide (v = 2) with
  | true =>
    contradiction
    refine w_take h1 (by omega) (by decide) (by decide) fun a S4 a0 a1 h4 => ?_
    contradiction
    refine w_take h4 (by omega) (by decide) (by decide) fun b S5 b0 b1 h5 => ?_
    contradiction
    refine w_share (by omega) (by omega) ?_
    contradiction
    have zs : Sz 5 (Rat.divInt (1 + a) (1 + b)) := sz_div (by omega) (by omega) (by omega)
    have ps := dpos (a := 1 + a) (b := 1 + b) (by omega) (by omega)
    generalize Rat.divInt (1 + a) (1 + b) = z at *
    rw [rq_inv ps]
    refine w_ltimes (hx.q.mono (by decide)) ((sz_inv ps zs).mono (by decide)) ?_
    contradiction
    refine w_ltimes (zs.mono (by decide)) (zs.mono (by decide)) ?_
    contradiction
    refine w_ltimes (hx.e.mono (by decide)) ((sz_mul zs zs).mono (by decide)) ?_
    contradiction
    refine kR_same (k ⟨x.p, x.q * z⁻¹, x.e * (z * z)⟩ _ ⟨Rat.mul_nonneg hx.nn (Rat.mul_nonneg (by grind) (by grind)), hx.p.mono (by decide), sz_mul hx.q (sz_inv ps zs), (sz_mul hx.e (sz_mul zs zs)).mono (by decide), ?_⟩ (h5.mono (by omega))) (by rw [h5.len, h.len])
    have zi : z * z⁻¹ = 1 := Rat.mul_inv_cancel _ (by grind)
    have e : x.q * z⁻¹ * (x.q * z⁻¹) * (x.e * (z * z)) = x.q * x.q * x.e := by
      generalize z⁻¹ = y at *
      have : x.q * y * (x.q * y) * (x.e * (z * z)) = x.q * x.q * x.e * ((z * y) * (z * y)) := by grind
      rw [this, zi]
      grind
    simp only
    rw [e]
    exact hx.O.s
  | false =>
  contradiction
  cases c2 : decide (v = 3) with
  | true =>
    contradiction
    obtain ⟨w, hw, w01⟩ : ∃ w : Int, (if decide (x.q.num < 0) = true then (1 : Int) else 0) = w ∧ (w = 0 ∨ w = 1) := by
      by_cases h : x.q.num < 0
      · exact ⟨1, if_pos (decide_eq_true h), .inr rfl⟩
      · exact ⟨0, if_neg (by simpa using h), .inl rfl⟩
    rw [hw]
    refine w_mul (wideM_of (a := 20) (b := 20) (by decide) (by omega)) ?_
    contradiction
    refine w_ltimes (hx.q.mono (by decide)) (hx.q.mono (by decide)) ?_
    contradiction
    refine w_ltimes ((sz_mul hx.q hx.q).mono (by decide)) (hx.e.mono (by decide)) ?_
    contradiction
    have u : (1 - 2 * w) = 1 ∨ (1 - 2 * w) = -1 := by omega
    have zu : Sz 1 ((1 - 2 * w : Int) : Rat) := by rcases u with e | e <;> rw [e] <;> exact ⟨by decide, by decide⟩
    have uu : ((1 - 2 * w : Int) : Rat) * ((1 - 2 * w : Int) : Rat) = 1 := by rcases u with e | e <;> rw [e] <;> decide +kernel
    refine kR_same (k ⟨x.p, ((1 - 2 * w : Int) : Rat), x.q * x.q * x.e⟩ _ ⟨Rat.mul_nonneg (sq_nn _) hx.nn, hx.p.mono (by decide), zu.mono (by decide), (sz_mul (sz_mul hx.q hx.q) hx.e).mono (by decide), ?_⟩ (h1.mono (by omega))) (by rw [h1.len, h.len])
    simp only
    rw [uu, Rat.one_mul]
    exact hx.O.s
  | false =>
  contradiction
  cases c3 : decide (v = 4) with
  | true =>
    contradiction
    refine w_take h1 (by omega) (by decide) (by decide) fun a S4 a0 a1 h4 => ?_
    contradiction
    refine w_mul (wideM_of (a := 20) (b := 20) (by decide) (by omega)) ?_
    contradiction
    refine w_take h4 (by omega) (by decide) (by decide) fun b S5 b0 b1 h5 => ?_
    contradiction
    obtain ⟨r, hr, zr⟩ := one_over (s := 1 - 2 * a) (n := 999999 - b) (by omega) (by omega) (by omega)
    rw [hr]
    refine w_lplus (hx.p.mono (by decide)) (zr.mono (by decide)) ?_
    contradiction
    exact kR_same (k ⟨x.p + r, x.q, x.e⟩ _ ⟨hx.nn, (sz_add hx.p zr).mono (by decide), hx.q.mono (by decide), hx.e.mono (by decide), hx.O.s⟩ (h5.mono (by omega))) (by rw [h5.len, h.len])
  | false =>
    contradiction
    rw [show ML.D.tup [rq x.p, rq x.q, rq x.e] = rn x.p x.q x.e from rfl]
    refine w_form hx.nn (hx.p.mono (by decide)) (hx.q.mono (by decide)) (hx.e.mono (by decide)) (hx.O.s.mono (by decide)) fun f hf e1 => ?_
    contradiction
    refine w_reach hf (by decide) (Nat.lt_of_lt_of_le (show (1000 : Int).natAbs < 2 ^ 10 by decide) (Nat.pow_le_pow_right (by decide) (by decide))) fun lo hi w b => ?_
    have lb := lo_le hx hf e1 w b
    contradiction
    refine w_take h1 (by omega) (by decide) (by decide) fun a S4 a0 a1 h4 => ?_
    contradiction
    refine w_share (by decide) (by decide) ?_
    contradiction
    have zd : Sz 43 (Rat.divInt (lo + a) 1000) := sz_div (by decide) (by omega) (by decide)
    exact kR_same (k ⟨Rat.divInt (lo + a) 1000, 0, 0⟩ _ ⟨Rat.le_refl, zd, sz_0, sz_0, (by simp only; rw [show (0 : Rat) * 0 * 0 = 0 from by decide +kernel]; exact sz_0)⟩ (h4.mono (by omega))) (by rw [h4.len, h.len])
theorem law_true (ns : List Int) (h : ns.length ≤ 63) : ∃ S', d_law [.loc 0] [.rol (ns.map ML.D.int)] = some (.bl true, S') := by
  have : wF d_law [.loc 0] [.rol (ns.map ML.D.int)] (fun d _ => d = .bl true) := by
    obtain ⟨parts, hd⟩ := h_deck ns h
    have I0 : Dk 0 [] (dkS ns parts 0 0 []) := dkS_mk h (by decide) (by decide) (by decide)
    trivial
    refine w_F hd ?_
    contradiction
    refine w_2 (x_pow (by decide)) ?_
    contradiction
    refine w_take I0 (by decide) (by decide) (by decide) fun v S1 v0 v1 h1 => ?_
    contradiction
    obtain ⟨k, hk, hkk⟩ : ∃ k : Int, atI [ML.D.int 1, .int (10 ^ (30 : Int).toNat + 57)] (if decide (v = 0) = true then 1 else 0) = some (.int k) ∧ (k = 1 ∨ k = 10 ^ 30 + 57) := by
      by_cases h : v = 0
      · exact ⟨_, by rw [if_pos (decide_eq_true h), atI_1]; rfl, .inr rfl⟩
      · exact ⟨1, by rw [if_neg (by simpa using h), atI_0], .inl rfl⟩
    refine w_ix hk ?_
    contradiction
    refine wI_rc ?_
    refine w_rinv (fun i e T => Dk (1 + 80 * i) [] T ∧ ∃ x3 x4 x5 x6, e = [some (.loc 0), some (.loc 2), some (.int k), x3, x4, x5, x6]) ⟨h1, _, _, _, _, rfl⟩ (fun _ _ _ _ => srcOk_nil) ?_ ?_
    · rintro i d e T hi ⟨hT, x3, x4, x5, x6, rfl⟩
      obtain ⟨rfl, hi2⟩ := rngs_at hi
      have hi6 : i < 6 := hi2
      contradiction
      refine w_number hT (by omega) fun x T2 hx hT2 => ?_
      contradiction
      refine w_greater hx.O hkk fun X hX => ?_
      contradiction
      refine w_other hT2 (by omega) hx fun y T3 hy hT3 => ?_
      contradiction
      refine w_greater hy hkk fun Y hY => ?_
      contradiction
      refine w_right hX hY ?_
      contradiction
      refine w_right hY hX ?_
      contradiction
      refine w_right hX hX ?_
      contradiction
      exact ⟨hT3.mono (by omega), _, _, _, _, rfl⟩
    · rintro e T ⟨hT, x3, x4, x5, x6, rfl⟩
      contradiction
      exact kR_any fun _ => rfl
  obtain ⟨d, S', e, rfl⟩ := this
  exact ⟨S', e⟩
end Cl

namespace Cl
open PySem PySem.Spec PyProof.Rows L2 ML
abbrev R : PySem.W.OpenRow := PySem.W.OpenLaw.row PySem.Challenge.rw_scenetongue_k04_roots_compared
abbrev hk : PySem.W.Hook := hookY 4 fa fn cs ts
noncomputable def ob (s : PySem.W.SharedT) : AlY := obsYG 4 fa fn cs ts (HandSHeadRun.getT s)
theorem ob_eq (s : PySem.W.SharedT) : ob s = hk.obs s.abs := obsYG_eq (HandSHeadRun.getT_eq s)
def names : List PySem.Str := (["common_part", "frac", "plus", "minus", "times", "sign", "ZERO", "square", "sign_of_root", "sign_of_two", "sign_of_sum", "compare", "_law_cell", "_law_mixed", "_law_deck", "_law_take", "_law_gcd", "_law_share", "_law_plus", "_law_times", "_law_figures", "_law_fraction", "_law_whole_root", "_law_plain_root", "_law_form", "_law_reach", "_law_compare", "_law_number", "_law_other", "_law_right"] : List PySem.Str) ++ (["_law_greater"] : List PySem.Str)
theorem run (w : World) : HandSHeadRun.RunEq R (PySem.W.view R.prog [34]) hk ob 4000 names w := by
  revert w
  refine PySem.W.byRow2 "special-get-raises" ?_ ?_
  · intro w os
    kernel_rfl
  · intro w os
    kernel_rfl
end Cl
open PySem PySem.W PySem.Calls PyProof.Rows
theorem PySem.Challenge.cw_scenetongue_k04_roots_compared_holds : PySem.Challenge.rw_scenetongue_k04_roots_compared.Holds := by
  w_on; o_law
  refine HandSHeadRun.head_any (r := OpenLaw.row PySem.Challenge.rw_scenetongue_k04_roots_compared) (q := view (OpenLaw.row PySem.Challenge.rw_scenetongue_k04_roots_compared).prog [34]) (H := Cl.hk) (ob := Cl.ob) (M := 4000) (loose := Cl.names) (d := HandSHeadRun.topDef (OpenLaw.row PySem.Challenge.rw_scenetongue_k04_roots_compared).prog 34) (kwd := []) Cl.ob_eq
    (by kernel_rfl) (fun s => by kernel_rfl) Cl.run (by kernel_rfl) (by kernel_rfl) (by kernel_rfl) (by rfl) (by first | assumption | decide +kernel) (by decide +kernel) ⟨rfl, rfl, rfl, rfl, rfl, by decide +kernel⟩ ?hw ?hc
  case hw => w_witness2
  case hc =>
    refine L2.walk_ofE (l := PySem.Challenge.rw_scenetongue_k04_roots_compared) (n := 63) (k := 9) (x := "_law_script") (CX := L2.CX0) rfl (by decide) (by kernel_rfl) ⟨rfl, by decide, by decide⟩ ?F (fun _ _ _ _ z => z)
    intro w mg fa h Y G hmg0
    obtain ⟨K, KX, c⟩ := Y
    have hmg : mg ("law" : PySem.Str) = some (.ref fa) := by
      have e : (HandSHeadRun.topDef (OpenLaw.row PySem.Challenge.rw_scenetongue_k04_roots_compared).prog 34).name = ("law" : PySem.Str) := by kernel_rfl
      rw [← e]
      exact hmg0
    obtain ⟨fd, F⟩ := c.d.def_ 30 (d := ⟨("law", none), "law", "law", L2.defArgs Cl.s_law, L2.defBody Cl.s_law, L2.defScope Cl.s_law, [], []⟩) rfl
    have e := hmg.symm.trans (He.glo_ok KX G (c.d.fact 30 (f := .glo "law") rfl))
    cases e
    have b := L2.FunD.bindsA (ps := ["_law_script"]) F fun _ _ _ _ _ _ us hl => match us, hl with | [_], _ => rfl
    exact ⟨K, fd, ML.spD ⟨K, mg⟩ Cl.d_law, KX, fun s v => b s [v] rfl, fun H a ns hl hO hS => ML.law_sp hO hS (Cl.law_true ns hl), fun base _ _ => Cl.fnl_law KX G c F⟩
#print axioms PySem.Challenge.cw_scenetongue_k04_roots_compared_holds

