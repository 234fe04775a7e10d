import PyProof.Rows.All
import Wide.All
import OpenK.AllK
import Wide.FinOn
import HandS.ForMost
import HandS.Property
import HandS.Defaults
import HandS.MakeKwOnly
import HandS.OwnEq
import HandS.Rev
import HandS.RevRange
import HandS.Zip
import HandS.IsInst
import HandS.Style
import HandS.Gcd
import HandS.Wide
import HandS.Conv
import HandS.WordsExc
import HandS.HeadHook2
import PySem.Challenge.RW_certsums_k89_whole_sums_decided
import KE.KOpsOwn
import KE.GoesMore
import KE.GoesEnum
import HandS.SlotsOwn
import HandS.Walk
import HandS.Head0
import HandS.Head1
import HandS.Head2
import HandS.HeadEnd
import HandS.Head3
import HandS.MakeKw
import HandS.EndBits
set_option Elab.async false
set_option linter.all false
section
set_option maxRecDepth 100000
set_option maxHeartbeats 4000000
/-! A small logic over the readings: contexts that say of each slot what it holds, relative to a frozen part F of the heap H. -/
namespace G
open PySem L2

/-! ### frozen part and heap -/
def Ex (H H' : Hp) : Prop := ∀ a o, H a = some o → H' a = some o
theorem Ex.refl (H : Hp) : Ex H H := fun _ _ h => h
theorem Ex.trans {H H1 H2 : Hp} (a : Ex H H1) (b : Ex H1 H2) : Ex H H2 := fun x o h => b x o (a x o h)
theorem Ex.nn {H H1 : Hp} (e : Ex H H1) {a : Addr} (h : H1 a = none) : H a = none := by
  cases q : H a with
  | none => rfl
  | some o => rw [e a o q] at h; cases h
theorem Ex.new {H : Hp} {p : Addr} {o : HO} (h : H p = none) : Ex H (upd H p o) := fun a u e => by
  rw [upd_ne (ne_of_none e h)]; exact e
/-- the frozen part F of H has grown to F2 of H2; what was in H but not frozen is still not frozen -/
structure Le (F H F2 H2 : Hp) : Prop where
  h : Ex H H2
  f : Ex F F2
  s : Ex F2 H2
  n : ∀ a, H a ≠ none → F a = none → F2 a = none
section
variable {F H F1 H1 F2 H2 F3 H3 : Hp}
theorem Le.refl (e : Ex F H) : Le F H F H := ⟨Ex.refl _, Ex.refl _, e, fun _ _ h => h⟩
theorem Le.trans (a : Le F H F1 H1) (b : Le F1 H1 F2 H2) : Le F H F2 H2 :=
  ⟨a.h.trans b.h, a.f.trans b.f, b.s, fun x hx fx => b.n x (fun z => hx (a.h.nn z)) (a.n x hx fx)⟩
/-- a new object, not frozen -/
theorem Le.alloc {p : Addr} {o : HO} (e : Ex F H) (h : H p = none) : Le F H F (upd H p o) := ⟨Ex.new h, Ex.refl _, e.trans (Ex.new h), fun _ _ z => z⟩
/-- a new object, frozen -/
theorem Le.allocF {p : Addr} {o : HO} (e : Ex F H) (h : H p = none) : Le F H (upd F p o) (upd H p o) :=
  ⟨Ex.new h, Ex.new (e.nn h), fun a u q => by
    by_cases z : a = p
    · subst z; rw [upd_same] at q ⊢; exact q
    · rw [upd_ne z] at q ⊢; exact e a u q, fun a ha fa => by
    have z : a ≠ p := fun z => ha (by rw [z]; exact h)
    rw [upd_ne z]; exact fa⟩
/-- what was made since is frozen -/
theorem Le.freeze {p : Addr} {o : HO} (a : Le F H F1 H1) (h : H p = none) (e : H1 p = some o) (n : F1 p = none) : Le F H (upd F1 p o) H1 :=
  ⟨a.h, a.f.trans (Ex.new n), fun b u q => by
    by_cases z : b = p
    · subst z; rw [upd_same] at q; rw [← q]; exact e
    · rw [upd_ne z] at q; exact a.s b u q, fun b hb fb => by
    have z : b ≠ p := fun z => hb (by rw [z]; exact h)
    rw [upd_ne z]; exact a.n b hb fb⟩
/-- what was made since and is not frozen is changed -/
theorem Le.mut {p : Addr} {o : HO} (a : Le F H F1 H1) (h : H p = none) (n : F1 p = none) : Le F H F1 (upd H1 p o) :=
  ⟨fun b u q => by rw [upd_ne (ne_of_none q h)]; exact a.h b u q, a.f, fun b u q => by rw [upd_ne (ne_of_none q n)]; exact a.s b u q, a.n⟩
end

/-! ### what a value is -/
structure Rp where
  r : V → Hp → Prop
  m : ∀ v F F', Ex F F' → r v F → r v F'
def RK (x : V) : Rp := ⟨fun v _ => v = x, fun _ _ _ _ h => h⟩
abbrev RI (i : Int) : Rp := RK (.int i)
abbrev RB (b : Bool) : Rp := RK (.bl b)
/-- items -/
def Its : List Rp → List V → Hp → Prop
  | [], [], _ => True
  | R :: Rs, v :: vs, F => R.r v F ∧ Its Rs vs F
  | _, _, _ => False
theorem Its.mono : ∀ {Rs : List Rp} {vs : List V} {F F' : Hp}, Ex F F' → Its Rs vs F → Its Rs vs F'
  | [], [], _, _, _, _ => trivial
  | R :: _, v :: _, F, F', e, h => ⟨R.m v F F' e h.1, Its.mono e h.2⟩
  | [], _ :: _, _, _, _, h => h.elim
  | _ :: _, [], _, _, _, h => h.elim
theorem Its.len : ∀ {Rs : List Rp} {vs : List V} {F : Hp}, Its Rs vs F → Rs.length = vs.length
  | [], [], _, _ => rfl
  | _ :: _, _ :: _, _, h => by rw [List.length_cons, List.length_cons, Its.len h.2]
  | [], _ :: _, _, h => h.elim
  | _ :: _, [], _, h => h.elim
theorem Its.get : ∀ {Rs : List Rp} {vs : List V} {F : Hp} {i : Nat} {R : Rp}, Its Rs vs F → Rs[i]? = some R → ∃ v, vs[i]? = some v ∧ R.r v F
  | [], _, _, _, _, _, e => by simp at e
  | R :: Rs, [], _, _, _, h, _ => h.elim
  | R :: Rs, v :: vs, F, 0, R', h, e => by
    simp at e; subst e; exact ⟨v, rfl, h.1⟩
  | R :: Rs, v :: vs, F, i + 1, R', h, e => by
    simp at e
    obtain ⟨u, h1, h2⟩ := Its.get (i := i) h.2 e
    exact ⟨u, by simpa using h1, h2⟩
theorem Its.getV : ∀ {Rs : List Rp} {vs : List V} {F : Hp} {i : Nat} {v : V}, Its Rs vs F → vs[i]? = some v → ∃ R, Rs[i]? = some R ∧ R.r v F
  | _, [], _, _, _, _, e => by simp at e
  | [], v :: vs, _, _, _, h, _ => h.elim
  | R :: Rs, v :: vs, F, 0, R', h, e => by
    simp at e; subst e; exact ⟨R, rfl, h.1⟩
  | R :: Rs, v :: vs, F, i + 1, R', h, e => by
    simp at e
    obtain ⟨u, h1, h2⟩ := Its.getV (i := i) h.2 e
    exact ⟨u, by simpa using h1, h2⟩
theorem Its.set : ∀ {Rs : List Rp} {vs : List V} {F : Hp} (i : Nat) {R : Rp} {v : V}, R.r v F → Its Rs vs F → Its (Rs.set i R) (vs.set i v) F
  | [], [], _, _, _, _, _, _ => trivial
  | _ :: _, _ :: _, _, 0, _, _, h, q => ⟨h, q.2⟩
  | _ :: _, _ :: _, _, i + 1, _, _, h, q => ⟨q.1, Its.set i h q.2⟩
  | [], _ :: _, _, _, _, _, _, q => q.elim
  | _ :: _, [], _, _, _, _, _, q => q.elim
theorem Its.append : ∀ {Rs Ss : List Rp} {vs us : List V} {F : Hp}, Its Rs vs F → Its Ss us F → Its (Rs ++ Ss) (vs ++ us) F
  | [], _, [], _, _, _, q => q
  | _ :: _, _, _ :: _, _, _, h, q => ⟨h.1, Its.append h.2 q⟩
  | [], _, _ :: _, _, _, h, _ => h.elim
  | _ :: _, _, [], _, _, h, _ => h.elim
theorem Its.take : ∀ {Rs : List Rp} {vs : List V} {F : Hp} (n : Nat), Its Rs vs F → Its (Rs.take n) (vs.take n) F
  | _, _, _, 0, _ => trivial
  | [], [], _, _ + 1, _ => trivial
  | _ :: _, _ :: _, _, n + 1, h => ⟨h.1, Its.take n h.2⟩
  | [], _ :: _, _, _ + 1, h => h.elim
  | _ :: _, [], _, _ + 1, h => h.elim
theorem Its.drop : ∀ {Rs : List Rp} {vs : List V} {F : Hp} (n : Nat), Its Rs vs F → Its (Rs.drop n) (vs.drop n) F
  | _, _, _, 0, h => h
  | [], [], _, _ + 1, _ => trivial
  | _ :: _, _ :: _, _, n + 1, h => Its.drop n h.2
  | [], _ :: _, _, _ + 1, h => h.elim
  | _ :: _, [], _, _ + 1, h => h.elim
theorem Its.dropLast {Rs : List Rp} {vs : List V} {F : Hp} (h : Its Rs vs F) : Its Rs.dropLast vs.dropLast F := by
  rw [List.dropLast_eq_take, List.dropLast_eq_take, h.len]; exact h.take _
theorem Its.ks : ∀ {xs : List V} {vs : List V} {F : Hp}, Its (xs.map RK) vs F → vs = xs
  | [], [], _, _ => rfl
  | x :: xs, v :: vs, F, h => by rw [show v = x from h.1, Its.ks (xs := xs) h.2]
  | [], _ :: _, _, h => h.elim
  | _ :: _, [], _, h => h.elim
theorem Its.of_ks : ∀ (xs : List V) {F : Hp}, Its (xs.map RK) xs F
  | [], _ => trivial
  | _ :: xs, _ => ⟨rfl, Its.of_ks xs⟩
theorem Its.ints {ns : List Int} {vs : List V} {F : Hp} (h : Its (ns.map RI) vs F) : vs = ns.map V.int := by
  rw [show ns.map RI = (ns.map V.int).map RK from by rw [List.map_map]; rfl] at h
  exact h.ks
theorem Its.of_ints (ns : List Int) {F : Hp} : Its (ns.map RI) (ns.map V.int) F := by
  rw [show ns.map RI = (ns.map V.int).map RK from by rw [List.map_map]; rfl]
  exact Its.of_ks _
/-- a frozen list, a tuple -/
def RL (Rs : List Rp) : Rp := ⟨fun v F => ∃ l vs, v = .ref l ∧ F l = some (.lst vs) ∧ Its Rs vs F, fun _ _ _ e ⟨l, vs, h1, h2, h3⟩ => ⟨l, vs, h1, e _ _ h2, h3.mono e⟩⟩
def RT (Rs : List Rp) : Rp := ⟨fun v F => ∃ l vs, v = .ref l ∧ F l = some (.tup vs) ∧ Its Rs vs F, fun _ _ _ e ⟨l, vs, h1, h2, h3⟩ => ⟨l, vs, h1, e _ _ h2, h3.mono e⟩⟩

/-! ### contexts -/
inductive Ty where
  | any
  | fz (R : Rp)
  | own (Rs : List Rp)
  /-- an instance in the making: class, own dict, fields so far -/
  | mk (C dx a : Addr) (fs : List (Str × V)) (Rs : List Rp)
def Slot (H0 F H : Hp) : Ty → Option (Option V) → Prop
  | .any, _ => True
  | .fz R, o => ∃ v, o = some (some v) ∧ R.r v F
  | .own Rs, o => ∃ l vs, o = some (some (.ref l)) ∧ H0 l = none ∧ F l = none ∧ H l = some (.lst vs) ∧ Its Rs vs F
  | .mk C dx a0 fs Rs, o => ∃ a, o = some (some (.ref a)) ∧ H0 a = none ∧ F a = none ∧ H0 dx = none ∧ F dx = none ∧ dx ≠ a ∧ H dx = some (.own a) ∧ H a = some (.ins C dx fs) ∧ Its Rs (fs.map (·.2)) F ∧ a = a0
def Ty.mov : Ty → Bool
  | .own _ => true
  | .mk _ _ _ _ _ => true
  | _ => false
structure Ok (H0 : Hp) (Γ : List Ty) (σ : St) (F H : Hp) : Prop where
  len : σ.length = Γ.length
  slot : ∀ (i : Nat) (T : Ty), Γ[i]? = some T → Slot H0 F H T σ[i]?
  apart : ∀ (i j : Nat) (T U : Ty) (l : Addr), i ≠ j → Γ[i]? = some T → Γ[j]? = some U → T.mov = true → U.mov = true → σ[i]? = some (some (.ref l)) → σ[j]? = some (some (.ref l)) → False
section
variable {H0 F H F2 H2 : Hp} {Γ : List Ty} {σ : St} {T : Ty} {o : Option (Option V)}
theorem Slot.le (a : Le F H F2 H2) (h : Slot H0 F H T o) : Slot H0 F2 H2 T o := by
  cases T with
  | any => trivial
  | fz R => obtain ⟨v, e, r⟩ := h; exact ⟨v, e, R.m v F F2 a.f r⟩
  | own Rs =>
    obtain ⟨l, vs, e, h0, hf, hh, it⟩ := h
    exact ⟨l, vs, e, h0, a.n l (by rw [hh]; intro z; cases z) hf, a.h _ _ hh, it.mono a.f⟩
  | mk C dx a0 fs Rs =>
    obtain ⟨x, e, h0, hf, d0, df, ne, hd, hh, it⟩ := h
    exact ⟨x, e, h0, a.n x (by rw [hh]; intro z; cases z) hf, d0, a.n dx (by rw [hd]; intro z; cases z) df, ne, a.h _ _ hd, a.h _ _ hh, it.1.mono a.f, it.2⟩
theorem Ok.le (k : Ok H0 Γ σ F H) (a : Le F H F2 H2) : Ok H0 Γ σ F2 H2 := ⟨k.len, fun i T e => (k.slot i T e).le a, k.apart⟩
/-- a slot gets a frozen value, or is forgotten -/
theorem Ok.set {i : Nat} {v : V} {R : Rp} (k : Ok H0 Γ σ F H) (r : R.r v F) : Ok H0 (Γ.set i (.fz R)) (σ.set i (some v)) F H := by
  refine ⟨by rw [List.length_set, List.length_set, k.len], fun j T e => ?_, fun j j' T U l hj e1 e2 m1 m2 s1 s2 => ?_⟩
  · by_cases hij : i = j
    · subst hij
      rw [List.getElem?_set] at e
      simp only [if_true] at e
      split at e
      · rename_i hl
        cases e
        refine ⟨v, ?_, r⟩
        rw [List.getElem?_set_self (by rw [k.len]; exact hl)]
      · cases e
    · rw [List.getElem?_set_ne hij] at e ⊢
      exact k.slot j T e
  · have n1 : i ≠ j := fun z => by
      subst z
      rw [List.getElem?_set] at e1
      simp only [if_true] at e1
      split at e1
      · cases e1; cases m1
      · cases e1
    have n2 : i ≠ j' := fun z => by
      subst z
      rw [List.getElem?_set] at e2
      simp only [if_true] at e2
      split at e2
      · cases e2; cases m2
      · cases e2
    rw [List.getElem?_set_ne n1] at e1 s1
    rw [List.getElem?_set_ne n2] at e2 s2
    exact k.apart j j' T U l hj e1 e2 m1 m2 s1 s2
theorem Ok.wipe1 {i : Nat} (k : Ok H0 Γ σ F H) (hi : ∀ T, Γ[i]? = some T → T.mov = false) : Ok H0 (Γ.set i .any) (σ.set i none) F H := by
  refine ⟨by rw [List.length_set, List.length_set, k.len], fun j T e => ?_, fun j j' T U l hj e1 e2 m1 m2 s1 s2 => ?_⟩
  · by_cases hij : i = j
    · subst hij
      rw [List.getElem?_set] at e
      simp only [if_true] at e
      split at e
      · cases e; trivial
      · cases e
    · rw [List.getElem?_set_ne hij] at e ⊢
      exact k.slot j T e
  · have n1 : i ≠ j := fun z => by
      subst z
      rw [List.getElem?_set] at e1
      simp only [if_true] at e1
      split at e1
      · cases e1; cases m1
      · cases e1
    have n2 : i ≠ j' := fun z => by
      subst z
      rw [List.getElem?_set] at e2
      simp only [if_true] at e2
      split at e2
      · cases e2; cases m2
      · cases e2
    rw [List.getElem?_set_ne n1] at e1 s1
    rw [List.getElem?_set_ne n2] at e2 s2
    exact k.apart j j' T U l hj e1 e2 m1 m2 s1 s2
/-- a slot gets a list of one's own, new -/
theorem Ok.setOwn {i : Nat} {l : Addr} {vs : List V} {Rs : List Rp} (k : Ok H0 Γ σ F H) (h0 : H0 l = none) (hn : F l = none) (hl : H l = some (.lst vs)) (it : Its Rs vs F)
    (fr : ∀ j, j ≠ i → ∀ T, Γ[j]? = some T → T.mov = true → σ[j]? ≠ some (some (.ref l))) : Ok H0 (Γ.set i (.own Rs)) (σ.set i (some (.ref l))) F H := by
  refine ⟨by rw [List.length_set, List.length_set, k.len], fun j T e => ?_, fun j j' T U l' hj e1 e2 m1 m2 s1 s2 => ?_⟩
  · by_cases hij : i = j
    · subst hij
      rw [List.getElem?_set] at e
      simp only [if_true] at e
      split at e
      · rename_i hlt
        cases e
        refine ⟨l, vs, ?_, h0, hn, hl, it⟩
        rw [List.getElem?_set_self (by rw [k.len]; exact hlt)]
      · cases e
    · rw [List.getElem?_set_ne hij] at e ⊢
      exact k.slot j T e
  · by_cases n1 : i = j
    · subst n1
      rw [List.getElem?_set_ne hj] at e2 s2
      have : l' = l := by
        rw [List.getElem?_set] at s1
        simp only [if_true] at s1
        split at s1
        · cases s1; rfl
        · cases s1
      subst this
      exact fr j' (Ne.symm hj) U e2 m2 s2
    · by_cases n2 : i = j'
      · subst n2
        rw [List.getElem?_set_ne n1] at e1 s1
        have : l' = l := by
          rw [List.getElem?_set] at s2
          simp only [if_true] at s2
          split at s2
          · cases s2; rfl
          · cases s2
        subst this
        exact fr j (fun z => n1 z.symm) T e1 m1 s1
      · rw [List.getElem?_set_ne n1] at e1 s1
        rw [List.getElem?_set_ne n2] at e2 s2
        exact k.apart j j' T U l' hj e1 e2 m1 m2 s1 s2
theorem Ok.movAt {j : Nat} {T : Ty} {l : Addr} (k : Ok H0 Γ σ F H) (e : Γ[j]? = some T) (m : T.mov = true) (s : σ[j]? = some (some (.ref l))) : H0 l = none ∧ F l = none ∧ H l ≠ none := by
  have h := k.slot j T e
  cases T with
  | any => cases m
  | fz R => cases m
  | own Rs =>
    obtain ⟨l', vs, e', h0, hf, hh, _⟩ := h
    rw [s] at e'
    cases e'
    exact ⟨h0, hf, by rw [hh]; intro z; cases z⟩
  | mk C dx a0 fs Rs =>
    obtain ⟨l', e', h0, hf, _, _, _, _, hh, _⟩ := h
    rw [s] at e'
    cases e'
    exact ⟨h0, hf, by rw [hh]; intro z; cases z⟩
/-- the list in slot i is changed in place -/
theorem Ok.mutOwn {i : Nat} {l : Addr} {vs : List V} {Rs Rs' : List Rp} (k : Ok H0 Γ σ F H) (hi : Γ[i]? = some (.own Rs)) (hs : σ[i]? = some (some (.ref l))) (it : Its Rs' vs F) :
    Ok H0 (Γ.set i (.own Rs')) σ F (upd H l (.lst vs)) := by
  obtain ⟨l', vs', e', h0, hf, hh, it'⟩ := k.slot i _ hi
  rw [hs] at e'
  cases e'
  refine ⟨by rw [List.length_set, k.len], fun j T e => ?_, fun j j' T U l' hj e1 e2 m1 m2 s1 s2 => ?_⟩
  · by_cases hij : i = j
    · subst hij
      rw [List.getElem?_set] at e
      simp only [if_true] at e
      split at e
      · cases e
        exact ⟨l, vs, hs, h0, hf, upd_same, it⟩
      · cases e
    · rw [List.getElem?_set_ne hij] at e
      have h := k.slot j T e
      cases T with
      | any => trivial
      | fz R => exact h
      | own Rs2 =>
        obtain ⟨l2, vs2, e2, h02, hf2, hh2, it2⟩ := h
        have nl : l2 ≠ l := fun z => by
          subst z
          exact k.apart i j _ _ l2 hij hi e rfl rfl hs e2
        exact ⟨l2, vs2, e2, h02, hf2, by rw [upd_ne nl]; exact hh2, it2⟩
      | mk C dx a0 fs Rs2 =>
        obtain ⟨x, e2, h02, hf2, d0, df, ne, hd, hh2, it2⟩ := h
        have nl : x ≠ l := fun z => by
          subst z
          exact k.apart i j _ _ x hij hi e rfl rfl hs e2
        have nd : dx ≠ l := fun z => by
          subst z
          rw [hh] at hd; cases hd
        exact ⟨x, e2, h02, hf2, d0, df, ne, by rw [upd_ne nd]; exact hd, by rw [upd_ne nl]; exact hh2, it2⟩
  · have g1 : ∃ T', Γ[j]? = some T' ∧ T'.mov = true := by
      by_cases hij : i = j
      · subst hij; exact ⟨_, hi, rfl⟩
      · rw [List.getElem?_set_ne hij] at e1; exact ⟨T, e1, m1⟩
    have g2 : ∃ T', Γ[j']? = some T' ∧ T'.mov = true := by
      by_cases hij : i = j'
      · subst hij; exact ⟨_, hi, rfl⟩
      · rw [List.getElem?_set_ne hij] at e2; exact ⟨U, e2, m2⟩
    obtain ⟨T', t1, t2⟩ := g1
    obtain ⟨U', u1, u2⟩ := g2
    exact k.apart j j' T' U' l' hj t1 u1 t2 u2 s1 s2
/-- the list in slot i is frozen -/
theorem Ok.freeze {i : Nat} {Rs : List Rp} (k : Ok H0 Γ σ F H) (hi : Γ[i]? = some (.own Rs)) : ∃ l vs, H0 l = none ∧ F l = none ∧ H l = some (.lst vs) ∧ Ok H0 (Γ.set i (.fz (RL Rs))) σ (upd F l (.lst vs)) H := by
  obtain ⟨l, vs, hs, h0, hf, hh, it⟩ := k.slot i _ hi
  have ex : Ex F (upd F l (.lst vs)) := Ex.new hf
  refine ⟨l, vs, h0, hf, hh, by rw [List.length_set, k.len], fun j T e => ?_, fun j j' T U l' hj e1 e2 m1 m2 s1 s2 => ?_⟩
  · by_cases hij : i = j
    · subst hij
      rw [List.getElem?_set] at e
      simp only [if_true] at e
      split at e
      · cases e
        exact ⟨_, hs, l, vs, rfl, upd_same, it.mono ex⟩
      · cases e
    · rw [List.getElem?_set_ne hij] at e
      have h := k.slot j T e
      cases T with
      | any => trivial
      | fz R => obtain ⟨v, e1, r⟩ := h; exact ⟨v, e1, R.m v _ _ ex r⟩
      | own Rs2 =>
        obtain ⟨l2, vs2, e2, h02, hf2, hh2, it2⟩ := h
        have nl : l2 ≠ l := fun z => by
          subst z
          exact k.apart i j _ _ l2 hij hi e rfl rfl hs e2
        exact ⟨l2, vs2, e2, h02, by rw [upd_ne nl]; exact hf2, hh2, it2.mono ex⟩
      | mk C dx a0 fs Rs2 =>
        obtain ⟨x, e2, h02, hf2, d0, df, ne, hd, hh2, it2⟩ := h
        have nl : x ≠ l := fun z => by
          subst z
          exact k.apart i j _ _ x hij hi e rfl rfl hs e2
        have nd : dx ≠ l := fun z => by
          subst z
          rw [hh] at hd; cases hd
        exact ⟨x, e2, h02, by rw [upd_ne nl]; exact hf2, d0, by rw [upd_ne nd]; exact df, ne, hd, hh2, it2.1.mono ex, it2.2⟩
  · have n1 : i ≠ j := fun z => by
      subst z
      rw [List.getElem?_set] at e1
      simp only [if_true] at e1
      split at e1
      · cases e1; cases m1
      · cases e1
    have n2 : i ≠ j' := fun z => by
      subst z
      rw [List.getElem?_set] at e2
      simp only [if_true] at e2
      split at e2
      · cases e2; cases m2
      · cases e2
    rw [List.getElem?_set_ne n1] at e1
    rw [List.getElem?_set_ne n2] at e2
    exact k.apart j j' T U l' hj e1 e2 m1 m2 s1 s2
end
end G
end
section
set_option maxRecDepth 100000
set_option maxHeartbeats 4000000
/-! Judgements over the contexts: expressions, arguments, tests, statements. -/
namespace G
open PySem L2

/-! ### judgements -/
def EV (Γ : List Ty) (te : TE) (R : Rp) : Prop := ∀ H0 F H σ, Ex F H → Ok H0 Γ σ F H → ∀ Q : VK, (∀ v F2 H2, Le F H F2 H2 → R.r v F2 → Q v H2) → te σ H Q
/-- a new list of one's own -/
def EO (Γ : List Ty) (te : TE) (Rs : List Rp) : Prop := ∀ H0 F H σ, Ex F H → Ok H0 Γ σ F H → ∀ Q : VK, (∀ l vs F2 H2, Le F H F2 H2 → H l = none → F2 l = none → H2 l = some (.lst vs) → Its Rs vs F2 → Q (.ref l) H2) → te σ H Q
def EA (Γ : List Ty) (ta : TA) (Rs : List Rp) : Prop := ∀ H0 F H σ, Ex F H → Ok H0 Γ σ F H → ∀ Q : List V → Hp → Prop, (∀ vs F2 H2, Le F H F2 H2 → Its Rs vs F2 → Q vs H2) → ta σ H Q
def ET (Γ : List Ty) (tt : TT) (b : Bool) : Prop := ∀ H0 F H σ, Ex F H → Ok H0 Γ σ F H → ∀ Q : Bool → Hp → Prop, (∀ F2 H2, Le F H F2 H2 → Q b H2) → tt σ H Q
/-- a slice's part -/
def EP (Γ : List Ty) (to : TO) (o : Option Int) : Prop := ∀ H0 F H σ, Ex F H → Ok H0 Γ σ F H → ∀ Q : Option Int → Hp → Prop, (∀ F2 H2, Le F H F2 H2 → Q o H2) → to σ H Q
def SJ (F0 H0 : Hp) (D : Ends) (Γ : List Ty) (t : TS) : Prop := ∀ σ F H, Le F0 H0 F H → Ok H0 Γ σ F H → t D σ H
/-- what stands behind -/
def NX (F0 H0 : Hp) (P : L2.St → Hp → Prop) (Γ : List Ty) : Prop := ∀ σ F H, Le F0 H0 F H → Ok H0 Γ σ F H → P σ H
def RTn (F0 H0 : Hp) (rt : VK) (R : Rp) : Prop := ∀ v F H, Le F0 H0 F H → R.r v F → rt v H
/-- a context as a state's word -/
def PV (F0 H0 : Hp) (Γ : List Ty) : L2.St → Hp → Prop := fun σ H => ∃ F, Le F0 H0 F H ∧ Ok H0 Γ σ F H
theorem nx_pv {F0 H0 : Hp} {Γ : List Ty} : NX F0 H0 (PV F0 H0 Γ) Γ := fun σ F H e k => ⟨F, e, k⟩
/-- a promise: arguments, result -/
def SpF (A : List Rp) (B : Rp) : Sp := fun vs H Q _ => ∃ F, Ex F H ∧ Its A vs F ∧ ∀ v F2 H2, Le F H F2 H2 → B.r v F2 → Q v H2
theorem SpF.len {A : List Rp} {B : Rp} {vs : List V} {H : Hp} {Q : VK} {E : XK} (h : SpF A B vs H Q E) : vs.length = A.length := by
  obtain ⟨F, _, it, _⟩ := h; exact it.len.symm
/-- a family of promises -/
def SpG {ι : Type} (hy : ι → Prop) (A : ι → List Rp) (B : ι → Rp) : Sp := fun vs H Q E => ∃ i, hy i ∧ SpF (A i) (B i) vs H Q E
theorem RTn.same {F0 H0 : Hp} {Q : VK} {R : Rp} (k : ∀ v F2 H2, Le F0 H0 F2 H2 → R.r v F2 → Q v H2) : RTn F0 H0 Q R := k

/-! ### weaker contexts -/
/-- each slot says the same, or nothing -/
def Sub : List Ty → List Ty → Prop
  | [], [] => True
  | T :: Γ, U :: Δ => (U = .any ∨ T = U) ∧ Sub Γ Δ
  | _, _ => False
theorem Sub.refl : ∀ (Γ : List Ty), Sub Γ Γ
  | [] => trivial
  | _ :: Γ => ⟨.inr rfl, Sub.refl Γ⟩
theorem Sub.len : ∀ {Γ Δ : List Ty}, Sub Γ Δ → Γ.length = Δ.length
  | [], [], _ => rfl
  | _ :: _, _ :: _, h => by rw [List.length_cons, List.length_cons, Sub.len h.2]
  | [], _ :: _, h => h.elim
  | _ :: _, [], h => h.elim
theorem Sub.get : ∀ {Γ Δ : List Ty} {i : Nat} {U : Ty}, Sub Γ Δ → Δ[i]? = some U → U = .any ∨ Γ[i]? = some U
  | [], [], _, _, _, e => by simp at e
  | T :: Γ, V :: Δ, 0, U, h, e => by
    simp at e; subst e
    rcases h.1 with z | z
    · exact .inl z
    · exact .inr (by simp [z])
  | T :: Γ, V :: Δ, i + 1, U, h, e => by
    simp at e
    rcases Sub.get (i := i) h.2 e with z | z
    · exact .inl z
    · exact .inr (by simpa using z)
  | [], _ :: _, _, _, h, _ => h.elim
  | _ :: _, [], _, _, h, _ => h.elim
theorem Ok.sub {H0 F H : Hp} {Γ Δ : List Ty} {σ : L2.St} (k : Ok H0 Γ σ F H) (s : Sub Γ Δ) : Ok H0 Δ σ F H := by
  refine ⟨by rw [k.len, s.len], fun i T e => ?_, fun i j T U l hij e1 e2 m1 m2 s1 s2 => ?_⟩
  · rcases s.get e with z | z
    · subst z; trivial
    · exact k.slot i T z
  · have n1 : Γ[i]? = some T := (s.get e1).resolve_left fun z => by subst z; cases m1
    have n2 : Γ[j]? = some U := (s.get e2).resolve_left fun z => by subst z; cases m2
    exact k.apart i j T U l hij n1 n2 m1 m2 s1 s2
theorem SJ.sub {F0 H0 : Hp} {D : Ends} {Γ Δ : List Ty} {t : TS} (h : SJ F0 H0 D Δ t) (s : Sub Γ Δ) : SJ F0 H0 D Γ t := fun σ F H e k => h σ F H e (k.sub s)
theorem NX.sub {F0 H0 : Hp} {P : L2.St → Hp → Prop} {Γ Δ : List Ty} (h : NX F0 H0 P Δ) (s : Sub Γ Δ) : NX F0 H0 P Γ := fun σ F H e k => h σ F H e (k.sub s)
theorem nx_sub {F0 H0 : Hp} {Γ Δ : List Ty} (s : Sub Γ Δ) : NX F0 H0 (PV F0 H0 Δ) Γ := nx_pv.sub s

/-! ### expressions -/
section
variable {Γ : List Ty} {ta tb te : TE} {R Ra Rb : Rp} {x y z : V}
theorem ev_var {i : Nat} (h : Γ[i]? = some (.fz R)) : EV Γ (tVar i) R := fun H0 F H σ e k Q q => by
  obtain ⟨v, hs, r⟩ := k.slot i _ h
  exact ⟨v, hs, q v F H (Le.refl e) r⟩
theorem ev_c {v : V} : EV Γ (tC v) (RK v) := fun H0 F H σ e k Q q => q v F H (Le.refl e) rfl
theorem EV.to (h : EV Γ te Ra) (c : ∀ v F, Ra.r v F → R.r v F) : EV Γ te R := fun H0 F H σ e k Q q => h H0 F H σ e k Q fun v F2 H2 l r => q v F2 H2 l (c v F2 r)
theorem EV.k (h : EV Γ te (RK x)) (e : x = y) : EV Γ te (RK y) := by rw [← e]; exact h
/-- both operands, then the rule -/
theorem ev_op {r : R2} (ha : EV Γ ta Ra) (hb : EV Γ tb Rb) (hr : ∀ x y F H Q, Ex F H → Ra.r x F → Rb.r y F → (∀ v F2 H2, Le F H F2 H2 → R.r v F2 → Q v H2) → r x y H Q) : EV Γ (tOp r ta tb) R := fun H0 F H σ e k Q q =>
  ha H0 F H σ e k _ fun x F1 H1 l1 r1 => hb H0 F1 H1 σ l1.s (k.le l1) _ fun y F2 H2 l2 r2 =>
    hr x y F2 H2 Q l2.s (Ra.m _ _ _ l2.f r1) r2 fun v F3 H3 l3 r3 => q v F3 H3 ((l1.trans l2).trans l3) r3
theorem ev_opK {r : R2} (ha : EV Γ ta (RK x)) (hb : EV Γ tb (RK y)) (hr : ∀ H (Q : VK), Q z H → r x y H Q) : EV Γ (tOp r ta tb) (RK z) :=
  ev_op ha hb fun x' y' F H Q e e1 e2 q => by
    cases (show x' = x from e1)
    cases (show y' = y from e2)
    exact hr H Q (q z F H (Le.refl e) rfl)
theorem ev_un {r : V → Hp → VK → Prop} (ha : EV Γ ta (RK x)) (hr : ∀ H (Q : VK), Q z H → r x H Q) : EV Γ (tUn r ta) (RK z) := fun H0 F H σ e k Q q =>
  ha H0 F H σ e k _ fun v F1 H1 l1 r1 => by
    cases (show v = x from r1)
    exact hr H1 Q (q z F1 H1 l1 rfl)
theorem ev_unR {r : V → Hp → VK → Prop} (ha : EV Γ ta Ra) (hr : ∀ x F H Q, Ex F H → Ra.r x F → (∀ v F2 H2, Le F H F2 H2 → R.r v F2 → Q v H2) → r x H Q) : EV Γ (tUn r ta) R := fun H0 F H σ e k Q q =>
  ha H0 F H σ e k _ fun x F1 H1 l1 r1 => hr x F1 H1 Q l1.s r1 fun v F3 H3 l3 r3 => q v F3 H3 (l1.trans l3) r3
section
variable {i j : Int}
theorem ev_I {g : Int → Int → V} (ha : EV Γ ta (RI i)) (hb : EV Γ tb (RI j)) : EV Γ (tOp (rI0 g) ta tb) (RK (g i j)) := ev_opK ha hb fun H Q q => ⟨i, j, rfl, rfl, q⟩
theorem ev_IC {C : Int → Int → Prop} {g : Int → Int → V} (ha : EV Γ ta (RI i)) (hb : EV Γ tb (RI j)) (hc : C i j) : EV Γ (tOp (rI C g) ta tb) (RK (g i j)) := ev_opK ha hb fun H Q q => ⟨i, j, rfl, rfl, hc, q⟩
theorem ev_U {g : Int → V} (ha : EV Γ ta (RI i)) : EV Γ (tUn (rU g) ta) (RK (g i)) := ev_un ha fun H Q q => ⟨i, rfl, q⟩
theorem ev_eq (ha : EV Γ ta (RK x)) (hb : EV Γ tb (RK y)) (h : scal x y = true) : EV Γ (tOp rEq ta tb) (RB (decide (x = y))) := ev_opK ha hb fun H Q q => ⟨h, q⟩
theorem ev_ne (ha : EV Γ ta (RK x)) (hb : EV Γ tb (RK y)) (h : scal x y = true) : EV Γ (tOp rNe ta tb) (RB (!decide (x = y))) := ev_opK ha hb fun H Q q => ⟨h, q⟩
end
/-! ### arguments, tests -/
theorem ea_nil : EA Γ tNil [] := fun H0 F H σ e k Q q => q [] F H (Le.refl e) trivial
theorem ea_cons {tr : TA} {Rs : List Rp} (h : EV Γ te R) (hr : EA Γ tr Rs) : EA Γ (tCons te tr) (R :: Rs) := fun H0 F H σ e k Q q =>
  h H0 F H σ e k _ fun v F1 H1 l1 r1 => hr H0 F1 H1 σ l1.s (k.le l1) _ fun vs F2 H2 l2 r2 => q (v :: vs) F2 H2 (l1.trans l2) ⟨R.m _ _ _ l2.f r1, r2⟩
theorem ea1 (h : EV Γ te R) : EA Γ (tCons te tNil) [R] := ea_cons h ea_nil
theorem ea2 (h : EV Γ ta Ra) (h2 : EV Γ tb Rb) : EA Γ (tCons ta (tCons tb tNil)) [Ra, Rb] := ea_cons h (ea1 h2)
variable {t u : TT} {a b : Bool}
theorem et_test (h : EV Γ te (RB b)) : ET Γ (tTest te) b := fun H0 F H σ e k Q q => h H0 F H σ e k _ fun v F1 H1 l1 r1 => ⟨b, r1, q F1 H1 l1⟩
theorem et_B (h : EV Γ te (RB b)) : ET Γ (tB te) b := fun H0 F H σ e k Q q => h H0 F H σ e k _ fun v F1 H1 l1 r1 => ⟨b, r1, q F1 H1 l1⟩
theorem et_and (h1 : ET Γ t a) (h2 : a = true → ET Γ u b) : ET Γ (tAnd t u) (a && b) := fun H0 F H σ e k Q q => h1 H0 F H σ e k _ fun F1 H1 l1 => by
  cases a with
  | true => exact h2 rfl H0 F1 H1 σ l1.s (k.le l1) Q fun F2 H2 l2 => q F2 H2 (l1.trans l2)
  | false => exact q F1 H1 l1
theorem et_or (h1 : ET Γ t a) (h2 : a = false → ET Γ u b) : ET Γ (tOr t u) (a || b) := fun H0 F H σ e k Q q => h1 H0 F H σ e k _ fun F1 H1 l1 => by
  cases a with
  | true => exact q F1 H1 l1
  | false => exact h2 rfl H0 F1 H1 σ l1.s (k.le l1) Q fun F2 H2 l2 => q F2 H2 (l1.trans l2)
theorem et_not (h1 : ET Γ t a) : ET Γ (tNot t) (!a) := fun H0 F H σ e k Q q => h1 H0 F H σ e k _ fun F1 H1 l1 => q F1 H1 l1
theorem ET.is (h : ET Γ t a) (e : a = b) : ET Γ t b := by rw [← e]; exact h
theorem ev_andV (h1 : EV Γ ta (RB a)) (h2 : a = true → EV Γ tb (RB b)) : EV Γ (tAndV ta tb) (RB (a && b)) := fun H0 F H σ e k Q q => h1 H0 F H σ e k _ fun v F1 H1 l1 r1 => ⟨a, r1, by
  cases a with
  | true => exact h2 rfl H0 F1 H1 σ l1.s (k.le l1) Q fun v F2 H2 l2 r2 => q v F2 H2 (l1.trans l2) r2
  | false => exact q (.bl false) F1 H1 l1 rfl⟩
theorem ev_orV (h1 : EV Γ ta (RB a)) (h2 : a = false → EV Γ tb (RB b)) : EV Γ (tOrV ta tb) (RB (a || b)) := fun H0 F H σ e k Q q => h1 H0 F H σ e k _ fun v F1 H1 l1 r1 => ⟨a, r1, by
  cases a with
  | true => exact q (.bl true) F1 H1 l1 rfl
  | false => exact h2 rfl H0 F1 H1 σ l1.s (k.le l1) Q fun v F2 H2 l2 r2 => q v F2 H2 (l1.trans l2) r2⟩
theorem ev_notV (h1 : EV Γ ta (RB a)) : EV Γ (tNotV ta) (RB (!a)) := fun H0 F H σ e k Q q => h1 H0 F H σ e k _ fun v F1 H1 l1 r1 => ⟨a, r1, q (.bl (!a)) F1 H1 l1 rfl⟩
/-! ### tuples, lists, their items -/
theorem ev_tup {tl : TA} {Rs : List Rp} (h : EA Γ tl Rs) (hz : Rs.length ≤ 1000) : EV Γ (tTup tl) (RT Rs) := fun H0 F H σ e k Q q =>
  h H0 F H σ e k _ fun vs F1 H1 l1 r1 => ⟨by rw [← r1.len]; exact Nat.le_trans hz (by decide), fun p hp => by
    have l2 := Le.allocF (o := .tup vs) l1.s hp
    exact q (.ref p) _ _ (l1.trans l2) ⟨p, vs, rfl, upd_same, r1.mono l2.f⟩⟩
theorem eo_lst {tl : TA} {Rs : List Rp} (h : EA Γ tl Rs) (hz : Rs.length ≤ 1000) : EO Γ (tLst tl) Rs := fun H0 F H σ e k Q q =>
  h H0 F H σ e k _ fun vs F1 H1 l1 r1 => ⟨by rw [← r1.len]; exact Nat.le_trans hz (by decide), fun p hp =>
    q p vs F1 _ (l1.trans (Le.alloc l1.s hp)) (l1.h.nn hp) (l1.s.nn hp) upd_same r1⟩
/-- frozen at once -/
theorem EO.ev {Rs : List Rp} (h : EO Γ te Rs) : EV Γ te (RL Rs) := fun H0 F H σ e k Q q => h H0 F H σ e k Q fun l vs F2 H2 l2 h1 h2 h3 it => by
  have l3 := l2.freeze h1 h3 h2
  exact q (.ref l) _ H2 l3 ⟨l, vs, rfl, upd_same, it.mono (Ex.new h2)⟩
theorem EO.to {Rs Rs' : List Rp} (h : EO Γ te Rs) (e : Rs = Rs') : EO Γ te Rs' := by rw [← e]; exact h
variable {K : PySem.W.Frag} {Rs : List Rp} {i : Int} {n : Nat}
theorem at_last {xs : List V} {v : V} (h : xs[xs.length - 1]? = some v) : atI xs (-1) = some v := by
  have hl : xs.length - 1 < xs.length := (List.getElem?_eq_some_iff.mp h).1
  unfold atI ixN
  rw [if_neg (by decide), if_pos (by omega)]
  show xs[((-1 : Int) + (xs.length : Int)).toNat]? = some v
  rw [show ((-1 : Int) + (xs.length : Int)).toNat = xs.length - 1 from by omega]
  exact h
theorem at_nat {xs : List V} {v : V} (h : xs[n]? = some v) : atI xs (n : Int) = some v := atI_nat h
theorem ev_ixL (ha : EV Γ ta (RL Rs)) (hb : EV Γ tb (RI (n : Int))) (h : Rs[n]? = some R) : EV Γ (tOp (rIxL K) ta tb) R :=
  ev_op ha hb fun x y F H Q e r1 r2 q => by
    obtain ⟨l, vs, rfl, h1, it⟩ := r1
    cases (show y = .int (n : Int) from r2)
    obtain ⟨v, hv, rv⟩ := it.get h
    exact ⟨l, vs, _, v, rfl, rfl, .inl (.inl (e _ _ h1)), atI_nat hv, q v F H (Le.refl e) rv⟩
theorem ev_ixT (ha : EV Γ ta (RT Rs)) (hb : EV Γ tb (RI (n : Int))) (h : Rs[n]? = some R) : EV Γ (tOp (rIxT K) ta tb) R :=
  ev_op ha hb fun x y F H Q e r1 r2 q => by
    obtain ⟨l, vs, rfl, h1, it⟩ := r1
    cases (show y = .int (n : Int) from r2)
    obtain ⟨v, hv, rv⟩ := it.get h
    exact ⟨l, vs, _, v, rfl, rfl, .inl (.inl (e _ _ h1)), atI_nat hv, q v F H (Le.refl e) rv⟩
/-- xs[-1] -/
theorem ev_ixTl (ha : EV Γ ta (RT Rs)) (hb : EV Γ tb (RI (-1))) (h : Rs[Rs.length - 1]? = some R) : EV Γ (tOp (rIxT K) ta tb) R :=
  ev_op ha hb fun x y F H Q e r1 r2 q => by
    obtain ⟨l, vs, rfl, h1, it⟩ := r1
    cases (show y = .int (-1) from r2)
    obtain ⟨v, hv, rv⟩ := it.get h
    rw [it.len] at hv
    exact ⟨l, vs, _, v, rfl, rfl, .inl (.inl (e _ _ h1)), at_last hv, q v F H (Le.refl e) rv⟩
/-- an item of one's own list -/
theorem ev_ixO {j : Nat} (ho : Γ[j]? = some (.own Rs)) (hb : EV Γ tb (RI (n : Int))) (h : Rs[n]? = some R) : EV Γ (tOp (rIxL K) (tVar j) tb) R := fun H0 F H σ e k Q q => by
  obtain ⟨l, vs, hs, h0, hf, hh, it⟩ := k.slot j _ ho
  refine ⟨.ref l, hs, hb H0 F H σ e k _ fun y F2 H2 l2 r2 => ?_⟩
  cases (show y = .int (n : Int) from r2)
  obtain ⟨v, hv, rv⟩ := it.get h
  exact ⟨l, vs, _, v, rfl, rfl, .inl (.inl (l2.h _ _ hh)), atI_nat hv, q v F2 H2 l2 (R.m _ _ _ l2.f rv)⟩
theorem ev_ixOl {j : Nat} (ho : Γ[j]? = some (.own Rs)) (hb : EV Γ tb (RI (-1))) (h : Rs[Rs.length - 1]? = some R) : EV Γ (tOp (rIxL K) (tVar j) tb) R := fun H0 F H σ e k Q q => by
  obtain ⟨l, vs, hs, h0, hf, hh, it⟩ := k.slot j _ ho
  refine ⟨.ref l, hs, hb H0 F H σ e k _ fun y F2 H2 l2 r2 => ?_⟩
  cases (show y = .int (-1) from r2)
  obtain ⟨v, hv, rv⟩ := it.get h
  rw [it.len] at hv
  exact ⟨l, vs, _, v, rfl, rfl, .inl (.inl (l2.h _ _ hh)), at_last hv, q v F2 H2 l2 (R.m _ _ _ l2.f rv)⟩
/-- len of a list, a tuple, one's own list; the rule's reading as call_len_seq has it -/
def rLenS (K : PySem.W.Frag) : List V → Hp → VK → Prop := fun xs H Q => ∃ p ys, xs = [.ref p] ∧ (SqL K H p ys ∨ SqT K H p ys) ∧ Q (.int ys.length) H
theorem ev_lenL (ha : EV Γ ta (RL Rs)) : EV Γ (tCB (rLenS K) (tCons ta tNil)) (RI (Rs.length : Nat)) := fun H0 F H σ e k Q q =>
  ha H0 F H σ e k _ fun v F1 H1 l1 r1 => by
    obtain ⟨l, vs, rfl, h1, it⟩ := r1
    refine ⟨l, vs, rfl, .inl (.inl (.inl (l1.s _ _ h1))), ?_⟩
    rw [← it.len]
    exact q _ F1 H1 l1 rfl
theorem ev_lenT (ha : EV Γ ta (RT Rs)) : EV Γ (tCB (rLenS K) (tCons ta tNil)) (RI (Rs.length : Nat)) := fun H0 F H σ e k Q q =>
  ha H0 F H σ e k _ fun v F1 H1 l1 r1 => by
    obtain ⟨l, vs, rfl, h1, it⟩ := r1
    refine ⟨l, vs, rfl, .inr (.inl (.inl (l1.s _ _ h1))), ?_⟩
    rw [← it.len]
    exact q _ F1 H1 l1 rfl
theorem ev_lenO {j : Nat} (ho : Γ[j]? = some (.own Rs)) : EV Γ (tCB (rLenS K) (tCons (tVar j) tNil)) (RI (Rs.length : Nat)) := fun H0 F H σ e k Q q => by
  obtain ⟨l, vs, hs, h0, hf, hh, it⟩ := k.slot j _ ho
  refine ⟨.ref l, hs, l, vs, rfl, .inl (.inl (.inl hh)), ?_⟩
  rw [← it.len]
  exact q _ F H (Le.refl e) rfl
end
end G
end
section
set_option maxRecDepth 100000
set_option maxHeartbeats 4000000
/-! Calls, fields, new lists; statements and loops over the contexts. -/
namespace G
open PySem L2
section
variable {Γ : List Ty} {ta tb te tx : TE} {R Ra Rb : Rp} {x y z : V} {K : PySem.W.Frag} {Rs Ss As : List Rp}
/-! ### fields, calls -/
/-- what is at hand of an instance: its class and a field -/
def HasF (Ra : Rp) (C : Addr) (f : Str) (R : Rp) : Prop := ∀ v F, Ra.r v F → ∃ a dx fs u, v = .ref a ∧ F a = some (.ins C dx fs) ∧ fs.lookup f = some u ∧ R.r u F
/-- an instance without own methods among its fields -/
def IsIns (Ra : Rp) (C : Addr) (m : Str) : Prop := ∀ v F, Ra.r v F → ∃ a dx fs, v = .ref a ∧ F a = some (.ins C dx fs) ∧ fs.lookup m = none
theorem ev_fld {C : Addr} {f : Str} (ha : EV Γ ta Ra) (hf : HasF Ra C f R) (c : Cls K C) (n : NoAttr K C f) : EV Γ (tFld K ta f) R := fun H0 F H σ e k Q q =>
  ha H0 F H σ e k _ fun v F1 H1 l1 r1 => by
    obtain ⟨a, dx, fs, u, rfl, h1, h2, h3⟩ := hf v F1 r1
    exact ⟨a, C, dx, fs, u, rfl, l1.s _ _ h1, c, n, h2, q u F1 H1 l1 h3⟩
theorem ev_call {sp : Sp} {dvs : List V} {E : XK} {t : TA} (h : EA Γ t As) (hs : ∀ vs H Q E, SpF (As ++ dvs.map RK) R vs H Q E → sp vs H Q E) : EV Γ (tCall sp dvs E t) R := fun H0 F H σ e k Q q =>
  h H0 F H σ e k _ fun vs F1 H1 l1 r1 => hs _ _ _ _ ⟨F1, l1.s, r1.append (Its.of_ks dvs), fun v F2 H2 l2 r2 => q v F2 H2 (l1.trans l2) r2⟩
theorem ev_meth {C : Addr} {m : Str} {sp : Sp} {dvs : List V} {E : XK} {t : TA} (ha : EV Γ ta Ra) (hi : IsIns Ra C m) (h : EA Γ t As) (hs : ∀ vs H Q E, SpF (Ra :: (As ++ dvs.map RK)) R vs H Q E → sp vs H Q E) :
    EV Γ (tMeth C m sp dvs E ta t) R := fun H0 F H σ e k Q q =>
  ha H0 F H σ e k _ fun v F1 H1 l1 r1 => by
    obtain ⟨a, dx, fs, e1, h1, h2⟩ := hi v F1 r1
    refine ⟨a, dx, fs, e1, l1.s _ _ h1, h2, h H0 F1 H1 σ l1.s (k.le l1) _ fun vs F2 H2 l2 r2 => hs _ _ _ _ ⟨F2, l2.s, ⟨Ra.m _ _ _ l2.f r1, r2.append (Its.of_ks dvs)⟩, fun u F3 H3 l3 r3 => q u F3 H3 ((l1.trans l2).trans l3) r3⟩⟩
theorem ev_prop {C : Addr} {m : Str} {sp : Sp} {E : XK} (ha : EV Γ ta Ra) (hi : IsIns Ra C m) (hs : ∀ vs H Q E, SpF [Ra] R vs H Q E → sp vs H Q E) : EV Γ (tProp C sp [] E ta) R := fun H0 F H σ e k Q q =>
  ha H0 F H σ e k _ fun v F1 H1 l1 r1 => by
    obtain ⟨a, dx, fs, e1, h1, h2⟩ := hi v F1 r1
    subst e1
    exact ⟨a, dx, fs, rfl, l1.s _ _ h1, hs _ _ _ _ ⟨F1, l1.s, ⟨r1, trivial⟩, fun u F3 H3 l3 r3 => q u F3 H3 (l1.trans l3) r3⟩⟩
/-- __init__: the new instance, not yet frozen, at a; what it has become -/
def SpInit (C : Addr) (A : List Rp) (B : Rp) : Sp := fun vs H Q _ => ∃ F Hp0 a dx us, vs = .ref a :: us ∧ Hp0 a = none ∧ Hp0 dx = none ∧ dx ≠ a ∧ H = upd (upd Hp0 dx (.own a)) a (.ins C dx []) ∧ Ex F Hp0 ∧ Its A us F ∧
  ∀ F2 H2, Le F Hp0 F2 H2 → B.r (.ref a) F2 → Q .non H2
theorem ev_make {C : Addr} {sp : Sp} {dvs : List V} {E : XK} {t : TA} (h : EA Γ t As) (hs : ∀ vs H Q E, SpInit C (As ++ dvs.map RK) R vs H Q E → sp vs H Q E) : EV Γ (tMake C sp dvs E t) R := fun H0 F H σ e k Q q =>
  h H0 F H σ e k _ fun vs F1 H1 l1 r1 a dx na nd ne => hs _ _ _ _ ⟨F1, H1, a, dx, vs ++ dvs, rfl, na, nd, ne, rfl, l1.s, r1.append (Its.of_ks dvs), fun F2 H2 l2 r2 => ⟨rfl, q _ F2 H2 (l1.trans l2) r2⟩⟩
/-! ### new lists -/
theorem eo_listL (ha : EV Γ ta (RL Rs)) : EO Γ (tCB (fun xs H Q => ∃ p ys, xs = [.ref p] ∧ (SqL K H p ys ∨ SqT K H p ys) ∧ ∀ l, H l = none → Q (.ref l) (upd H l (.lst ys))) (tCons ta tNil)) Rs := fun H0 F H σ e k Q q =>
  ha H0 F H σ e k _ fun v F1 H1 l1 r1 => by
    obtain ⟨l, vs, rfl, h1, it⟩ := r1
    exact ⟨l, vs, rfl, .inl (.inl (.inl (l1.s _ _ h1))), fun p hp => q p vs F1 _ (l1.trans (Le.alloc l1.s hp)) (l1.h.nn hp) (l1.s.nn hp) upd_same it⟩
theorem eo_listT (ha : EV Γ ta (RT Rs)) : EO Γ (tCB (fun xs H Q => ∃ p ys, xs = [.ref p] ∧ (SqL K H p ys ∨ SqT K H p ys) ∧ ∀ l, H l = none → Q (.ref l) (upd H l (.lst ys))) (tCons ta tNil)) Rs := fun H0 F H σ e k Q q =>
  ha H0 F H σ e k _ fun v F1 H1 l1 r1 => by
    obtain ⟨l, vs, rfl, h1, it⟩ := r1
    exact ⟨l, vs, rfl, .inr (.inl (.inl (l1.s _ _ h1))), fun p hp => q p vs F1 _ (l1.trans (Le.alloc l1.s hp)) (l1.h.nn hp) (l1.s.nn hp) upd_same it⟩
/-- tuple(a new list) -/
theorem ev_tupleO (ha : EO Γ ta Rs) : EV Γ (tCB (fun xs H Q => ∃ p ys, xs = [.ref p] ∧ ((SqL K H p ys ∧ ∀ l, H l = none → Q (.ref l) (upd H l (.tup ys))) ∨ (SqT K H p ys ∧ Q (.ref p) H))) (tCons ta tNil)) (RT Rs) := fun H0 F H σ e k Q q =>
  ha H0 F H σ e k _ fun l vs F1 H1 l1 h1 h2 h3 it => ⟨l, vs, rfl, .inl ⟨.inl (.inl h3), fun p hp => by
    have l2 := Le.allocF (o := .tup vs) l1.s hp
    exact q (.ref p) _ _ (l1.trans l2) ⟨p, vs, rfl, upd_same, it.mono l2.f⟩⟩⟩
theorem ev_tupleL (ha : EV Γ ta (RL Rs)) : EV Γ (tCB (fun xs H Q => ∃ p ys, xs = [.ref p] ∧ ((SqL K H p ys ∧ ∀ l, H l = none → Q (.ref l) (upd H l (.tup ys))) ∨ (SqT K H p ys ∧ Q (.ref p) H))) (tCons ta tNil)) (RT Rs) := fun H0 F H σ e k Q q =>
  ha H0 F H σ e k _ fun v F1 H1 l1 r1 => by
    obtain ⟨l, vs, rfl, h1, it⟩ := r1
    exact ⟨l, vs, rfl, .inl ⟨.inl (.inl (l1.s _ _ h1)), fun p hp => by
      have l2 := Le.allocF (o := .tup vs) l1.s hp
      exact q (.ref p) _ _ (l1.trans l2) ⟨p, vs, rfl, upd_same, it.mono l2.f⟩⟩⟩
theorem eo_cat (ha : EO Γ ta Rs) (hb : EO Γ tb Ss) (hz : Rs.length + Ss.length ≤ 1000000) : EO Γ (tOp rCat ta tb) (Rs ++ Ss) := fun H0 F H σ e k Q q =>
  ha H0 F H σ e k _ fun l vs F1 H1 l1 h1 h2 h3 it => hb H0 F1 H1 σ l1.s (k.le l1) _ fun b us F2 H2 l2 g1 g2 g3 it2 => ⟨l, b, vs, us, rfl, rfl, l2.h _ _ h3, g3, by rw [← it.len, ← it2.len]; exact Nat.le_trans hz (by decide), fun p hp =>
    q p _ F2 _ ((l1.trans l2).trans (Le.alloc l2.s hp)) (l1.h.nn (l2.h.nn hp)) (l2.s.nn hp) upd_same ((it.mono l2.f).append it2)⟩
theorem eo_catF (ha : EV Γ ta (RL Rs)) (hb : EV Γ tb (RL Ss)) (hz : Rs.length + Ss.length ≤ 1000000) : EO Γ (tOp rCat ta tb) (Rs ++ Ss) := fun H0 F H σ e k Q q =>
  ha H0 F H σ e k _ fun v F1 H1 l1 r1 => by
    obtain ⟨l, vs, rfl, h1, it⟩ := r1
    refine hb H0 F1 H1 σ l1.s (k.le l1) _ fun v F2 H2 l2 r2 => ?_
    obtain ⟨b, us, rfl, g1, it2⟩ := r2
    exact ⟨l, b, vs, us, rfl, rfl, l2.h _ _ (l1.s _ _ h1), l2.s _ _ g1, by rw [← it.len, ← it2.len]; exact Nat.le_trans hz (by decide), fun p hp =>
      q p _ F2 _ ((l1.trans l2).trans (Le.alloc l2.s hp)) (l1.h.nn (l2.h.nn hp)) (l2.s.nn hp) upd_same ((it.mono l2.f).append it2)⟩
/-- [x] * k -/
theorem eo_rep {i : Int} (ha : EO Γ ta [RK x]) (hb : EV Γ tb (RI i)) (h1 : i ≤ 1000000) (h0 : -1000000 ≤ i) : EO Γ (tOp rRep ta tb) (List.replicate i.toNat (RK x)) := fun H0 F H σ e k Q q =>
  ha H0 F H σ e k _ fun l vs F1 H1 l1 g1 g2 g3 it => hb H0 F1 H1 σ l1.s (k.le l1) _ fun v F2 H2 l2 r2 => by
    cases (show v = .int i from r2)
    obtain rfl : vs = [x] := Its.ks (xs := [x]) it
    refine ⟨l, i, [x], rfl, rfl, l2.h _ _ g3, by omega, by omega, ?_, fun p hp => ?_⟩
    · rw [List.length_singleton, Nat.one_mul]; exact Nat.le_trans (show i.toNat ≤ 1000000 by omega) (by decide)
    · refine q p _ F2 _ ((l1.trans l2).trans (Le.alloc l2.s hp)) (l1.h.nn (l2.h.nn hp)) (l2.s.nn hp) upd_same ?_
      generalize i.toNat = n
      clear h1 h0
      induction n with
      | zero => simp only [List.replicate_zero]; exact trivial
      | succ n ih =>
        simp only [List.replicate_succ, List.flatten_cons, List.singleton_append] at ih ⊢
        exact ⟨rfl, ih⟩
/-- a slice of a list -/
theorem ep_none : EP Γ tNoPart none := fun H0 F H σ e k Q q => q F H (Le.refl e)
theorem ep_some {i : Int} (h : EV Γ te (RI i)) : EP Γ (tPart te) (some i) := fun H0 F H σ e k Q q => h H0 F H σ e k _ fun v F1 H1 l1 r1 => ⟨i, r1, q F1 H1 l1⟩
theorem eo_slice {tl th : TO} {lo hi : Option Int} (ha : EV Γ ta (RL Rs)) (hl : EP Γ tl lo) (hh : EP Γ th hi) : EO Γ (tSl (rSlL K) ta tl th) ((Rs.drop (HT.sIx Rs.length 0 lo)).take (HT.sIx Rs.length Rs.length hi - HT.sIx Rs.length 0 lo)) := fun H0 F H σ e k Q q =>
  ha H0 F H σ e k _ fun v F1 H1 l1 r1 => hl H0 F1 H1 σ l1.s (k.le l1) _ fun F2 H2 l2 => hh H0 F2 H2 σ l2.s (k.le (l1.trans l2)) _ fun F3 H3 l3 => by
    obtain ⟨l, vs, rfl, h1, it⟩ := r1
    refine ⟨l, vs, rfl, .inl (.inl (l3.h _ _ (l2.h _ _ (l1.s _ _ h1)))), fun p hp => ?_⟩
    refine q p _ F3 _ (((l1.trans l2).trans l3).trans (Le.alloc l3.s hp)) (l1.h.nn (l2.h.nn (l3.h.nn hp))) (l3.s.nn hp) upd_same ?_
    unfold cutV
    rw [← it.len]
    exact (((it.mono l2.f).mono l3.f).drop _).take _
/-- .. of one's own -/
theorem eo_sliceO {j : Nat} {tl th : TO} {lo hi : Option Int} (ho : Γ[j]? = some (.own Rs)) (hl : EP Γ tl lo) (hh : EP Γ th hi) : EO Γ (tSl (rSlL K) (tVar j) tl th) ((Rs.drop (HT.sIx Rs.length 0 lo)).take (HT.sIx Rs.length Rs.length hi - HT.sIx Rs.length 0 lo)) := fun H0 F H σ e k Q q => by
  obtain ⟨l, vs, hs, h0, hf, hv, it⟩ := k.slot j _ ho
  refine ⟨.ref l, hs, hl H0 F H σ e k _ fun F2 H2 l2 => hh H0 F2 H2 σ l2.s (k.le l2) _ fun F3 H3 l3 => ?_⟩
  refine ⟨l, vs, rfl, .inl (.inl (l3.h _ _ (l2.h _ _ hv))), fun p hp => ?_⟩
  refine q p _ F3 _ ((l2.trans l3).trans (Le.alloc l3.s hp)) (l2.h.nn (l3.h.nn hp)) (l3.s.nn hp) upd_same ?_
  unfold cutV
  rw [← it.len]
  exact (((it.mono l2.f).mono l3.f).drop _).take _
end

/-! ### statements -/
section
variable {F0 H0 : Hp} {D : Ends} {Γ : List Ty} {ta tb te : TE} {R : Rp} {Rs : List Rp} {tz tu tw : TS} {tt : TT} {b : Bool} {i : Nat} {K : PySem.W.Frag}
theorem sj_next (h : NX F0 H0 D.nx Γ) : SJ F0 H0 D Γ tNext := h
/-- the last statement of a block, through a sequence's rule -/
theorem sj_seq {t : TS} (h : SJ F0 H0 { D with nx := tz D } Γ t) : SJ F0 H0 D Γ (tSeq t tz) := h
theorem sj_asg (h : EV Γ te R) (k : NX F0 H0 D.nx (Γ.set i (.fz R))) : SJ F0 H0 D Γ (tAsg te (gName i)) := fun σ F H e o =>
  h H0 F H σ e.s o _ fun v F2 H2 l r => k _ F2 H2 (e.trans l) ((o.le l).set r)
theorem q_asg (h : EV Γ te R) (k : SJ F0 H0 D (Γ.set i (.fz R)) tz) : SJ F0 H0 D Γ (tSeq (tAsg te (gName i)) tz) := sj_asg (D := { D with nx := tz D }) h k
theorem sj_asgO (h : EO Γ te Rs) (k : NX F0 H0 D.nx (Γ.set i (.own Rs))) : SJ F0 H0 D Γ (tAsg te (gName i)) := fun σ F H e o =>
  h H0 F H σ e.s o _ fun l vs F2 H2 l2 h1 h2 h3 it => k _ F2 H2 (e.trans l2) ((o.le l2).setOwn (e.h.nn h1) h2 h3 it fun j _ T e1 m1 s1 => ((o.movAt e1 m1 s1).2.2 h1).elim)
theorem q_asgO (h : EO Γ te Rs) (k : SJ F0 H0 D (Γ.set i (.own Rs)) tz) : SJ F0 H0 D Γ (tSeq (tAsg te (gName i)) tz) := sj_asgO (D := { D with nx := tz D }) h k
theorem sj_ret (h : EV Γ te R) (k : RTn F0 H0 D.rt R) : SJ F0 H0 D Γ (tRet te) := fun σ F H e o => h H0 F H σ e.s o _ fun v F2 H2 l r => k v F2 H2 (e.trans l) r
theorem sj_if (h : ET Γ tt b) (h1 : b = true → SJ F0 H0 D Γ tu) (h2 : b = false → SJ F0 H0 D Γ tw) : SJ F0 H0 D Γ (tIfS tt tu tw) := fun σ F H e o =>
  h H0 F H σ e.s o _ fun F2 H2 l => by
    cases b with
    | true => exact h1 rfl σ F2 H2 (e.trans l) (o.le l)
    | false => exact h2 rfl σ F2 H2 (e.trans l) (o.le l)
theorem q_if (h : ET Γ tt b) (h1 : b = true → SJ F0 H0 { D with nx := tz D } Γ tu) (h2 : b = false → SJ F0 H0 { D with nx := tz D } Γ tw) : SJ F0 H0 D Γ (tSeq (tIfS tt tu tw) tz) := sj_if (D := { D with nx := tz D }) h h1 h2
/-- an if without else, followed by the rest -/
theorem q_when (h : ET Γ tt b) (h1 : b = true → SJ F0 H0 { D with nx := tz D } Γ tu) (h2 : b = false → SJ F0 H0 D Γ tz) : SJ F0 H0 D Γ (tSeq (tIfS tt tu tNext) tz) := sj_if (D := { D with nx := tz D }) h h1 fun hb => h2 hb
/-- a guard that does not fire -/
theorem q_skip (h : ET Γ tt false) (k : SJ F0 H0 D Γ tz) : SJ F0 H0 D Γ (tSeq (tIfS tt tu tNext) tz) := q_when h (fun z => by cases z) fun _ => k
theorem sj_freeze (hi : Γ[i]? = some (.own Rs)) (k : SJ F0 H0 D (Γ.set i (.fz (RL Rs))) tz) : SJ F0 H0 D Γ tz := fun σ F H e o => by
  obtain ⟨l, vs, h0, hf, hh, o'⟩ := o.freeze hi
  exact k σ _ H (e.freeze h0 hh hf) o'
theorem nx_freeze {P : L2.St → Hp → Prop} (hi : Γ[i]? = some (.own Rs)) (k : NX F0 H0 P (Γ.set i (.fz (RL Rs)))) : NX F0 H0 P Γ := fun σ F H e o => by
  obtain ⟨l, vs, h0, hf, hh, o'⟩ := o.freeze hi
  exact k σ _ H (e.freeze h0 hh hf) o'
/-- xs.append(e), xs one's own -/
theorem sj_app (hi : Γ[i]? = some (.own Rs)) (h : EV Γ te R) (hz : Rs.length ≤ 1000000) (k : NX F0 H0 D.nx (Γ.set i (.own (Rs ++ [R])))) : SJ F0 H0 D Γ (tDrop (tBM K "list" rAppend (tVar i) (tCons te tNil))) := fun σ F H e o => by
  obtain ⟨l, vs, hs, h0, hf, hh, it⟩ := o.slot i _ hi
  refine ⟨.ref l, hs, .inl ⟨rfl, _, SqL.of hh⟩, h H0 F H σ e.s o _ fun v F2 H2 l2 r => ?_⟩
  obtain ⟨l', vs', hs', h0', hf', hh', it'⟩ := (o.le l2).slot i _ hi
  rw [hs] at hs'; cases hs'
  refine ⟨l, vs', v, rfl, rfl, hh', by rw [← it'.len]; exact Nat.lt_of_le_of_lt hz (by decide), ?_⟩
  exact k σ F2 _ ((e.trans l2).mut h0 hf') ((o.le l2).mutOwn hi hs (it'.append (Ss := [R]) ⟨r, trivial⟩))
theorem q_app (hi : Γ[i]? = some (.own Rs)) (h : EV Γ te R) (hz : Rs.length ≤ 1000000) (k : SJ F0 H0 D (Γ.set i (.own (Rs ++ [R]))) tz) : SJ F0 H0 D Γ (tSeq (tDrop (tBM K "list" rAppend (tVar i) (tCons te tNil))) tz) := sj_app (D := { D with nx := tz D }) hi h hz k
/-- xs.pop() -/
theorem sj_pop (hi : Γ[i]? = some (.own Rs)) (hz : 0 < Rs.length) (k : NX F0 H0 D.nx (Γ.set i (.own Rs.dropLast))) : SJ F0 H0 D Γ (tDrop (tBM0 K "list" rPop (tVar i))) := fun σ F H e o => by
  obtain ⟨l, vs, hs, h0, hf, hh, it⟩ := o.slot i _ hi
  have hl : vs.length - 1 < vs.length := by rw [← it.len]; omega
  refine ⟨.ref l, hs, .inl ⟨rfl, _, SqL.of hh⟩, l, vs, vs[vs.length - 1], rfl, rfl, hh, List.getElem?_eq_getElem hl, ?_⟩
  exact k σ F _ (e.mut h0 hf) (o.mutOwn hi hs it.dropLast)
/-- xs[n] = e -/
theorem sj_setO {n : Nat} (hi : Γ[i]? = some (.own Rs)) (h : EV Γ te R) (hb : EV Γ tb (RI (n : Int))) (hn : n < Rs.length) (k : NX F0 H0 D.nx (Γ.set i (.own (Rs.set n R)))) : SJ F0 H0 D Γ (tAsg te (gSub (tVar i) tb rSetL)) := fun σ F H e o =>
  h H0 F H σ e.s o _ fun v F1 H1 l1 r1 => by
    obtain ⟨l, vs, hs, h0, hf, hh, it⟩ := (o.le l1).slot i _ hi
    refine ⟨.ref l, hs, hb H0 F1 H1 σ l1.s (o.le l1) _ fun u F2 H2 l2 r2 => ?_⟩
    cases (show u = .int (n : Int) from r2)
    obtain ⟨l', vs', hs', h0', hf', hh', it'⟩ := (o.le (l1.trans l2)).slot i _ hi
    rw [hs] at hs'; cases hs'
    have hj : ixN vs'.length (n : Int) = some n := by
      unfold ixN
      rw [if_pos (by omega), if_pos (by rw [← it'.len]; omega)]
      rfl
    refine ⟨l, vs', _, n, rfl, rfl, hh', hj, ?_⟩
    exact k σ F2 _ (((e.trans l1).trans l2).mut h0 hf') ((o.le (l1.trans l2)).mutOwn hi hs (it'.set n (R.m _ _ _ l2.f r1)))
theorem q_setO {n : Nat} (hi : Γ[i]? = some (.own Rs)) (h : EV Γ te R) (hb : EV Γ tb (RI (n : Int))) (hn : n < Rs.length) (k : SJ F0 H0 D (Γ.set i (.own (Rs.set n R))) tz) : SJ F0 H0 D Γ (tSeq (tAsg te (gSub (tVar i) tb rSetL)) tz) := sj_setO (D := { D with nx := tz D }) hi h hb hn k
/-! ### loops -/
theorem sj_for1 {t : TA} {j : Nat} {n : Int} (h : EA Γ t [RI n]) (h0 : -1000000 ≤ n) (h1 : n ≤ 1000000) (I : Nat → List Ty) (s0 : Sub Γ (I 0))
    (hs : ∀ i, i < n.toNat → SJ F0 H0 { D with nx := PV F0 H0 (I (i + 1)), ct := PV F0 H0 (I (i + 1)), bk := D.nx } ((I i).set j (.fz (RI (i : Int)))) tu) (hd : NX F0 H0 D.nx (I n.toNat)) : SJ F0 H0 D Γ (tFor (iRng1 t) (gName j) tu) := fun σ F H e o =>
  h H0 F H σ e.s o _ fun vs F1 H1 l1 it => by
    obtain rfl : vs = [.int n] := Its.ks (xs := [.int n]) it
    refine ⟨n, rfl, by omega, by omega, ?_⟩
    refine for_range (lo := 0) (n := n.toNat) (fun i => PV F0 H0 (I i)) ⟨F1, e.trans l1, (o.le l1).sub s0⟩ (fun i σ' H' hi p => ?_) fun σ' H' p => ?_
    · obtain ⟨F', e', o'⟩ := p
      have z : (0 : Int) + (i : Int) = (i : Int) := Int.zero_add _
      show tu _ (σ'.set j (some (.int ((0 : Int) + (i : Int))))) H'
      rw [z]
      exact hs i hi _ F' H' e' (o'.set (R := RI (i : Int)) rfl)
    · obtain ⟨F', e', o'⟩ := p
      exact hd σ' F' H' e' o'
theorem q_for1 {t : TA} {j : Nat} {n : Int} (h : EA Γ t [RI n]) (h0 : -1000000 ≤ n) (h1 : n ≤ 1000000) (I : Nat → List Ty) (s0 : Sub Γ (I 0))
    (hs : ∀ i, i < n.toNat → SJ F0 H0 { D with nx := PV F0 H0 (I (i + 1)), ct := PV F0 H0 (I (i + 1)), bk := tz D } ((I i).set j (.fz (RI (i : Int)))) tu) (hd : SJ F0 H0 D (I n.toNat) tz) : SJ F0 H0 D Γ (tSeq (tFor (iRng1 t) (gName j) tu) tz) :=
  sj_for1 (D := { D with nx := tz D }) h h0 h1 I s0 hs hd
theorem sj_for2 {t : TA} {j : Nat} {lo n : Int} (h : EA Γ t [RI lo, RI n]) (h0 : -1000000 ≤ lo ∧ lo ≤ 1000000 ∧ -1000000 ≤ n ∧ n ≤ 1000000) (I : Nat → List Ty) (s0 : Sub Γ (I 0))
    (hs : ∀ (i : Nat), i < (n - lo).toNat → SJ F0 H0 { D with nx := PV F0 H0 (I (i + 1)), ct := PV F0 H0 (I (i + 1)), bk := D.nx } ((I i).set j (.fz (RI (lo + (i : Int))))) tu) (hd : NX F0 H0 D.nx (I (n - lo).toNat)) : SJ F0 H0 D Γ (tFor (iRng2 t) (gName j) tu) := fun σ F H e o =>
  h H0 F H σ e.s o _ fun vs F1 H1 l1 it => by
    obtain rfl : vs = [.int lo, .int n] := Its.ks (xs := [.int lo, .int n]) it
    refine ⟨lo, n, rfl, by omega, ?_⟩
    refine for_range (lo := lo) (n := (n - lo).toNat) (fun i => PV F0 H0 (I i)) ⟨F1, e.trans l1, (o.le l1).sub s0⟩ (fun i σ' H' hi p => ?_) fun σ' H' p => ?_
    · obtain ⟨F', e', o'⟩ := p
      exact hs i hi _ F' H' e' (o'.set (R := RI (lo + (i : Int))) rfl)
    · obtain ⟨F', e', o'⟩ := p
      exact hd σ' F' H' e' o'
theorem q_for2 {t : TA} {j : Nat} {lo n : Int} (h : EA Γ t [RI lo, RI n]) (h0 : -1000000 ≤ lo ∧ lo ≤ 1000000 ∧ -1000000 ≤ n ∧ n ≤ 1000000) (I : Nat → List Ty) (s0 : Sub Γ (I 0))
    (hs : ∀ (i : Nat), i < (n - lo).toNat → SJ F0 H0 { D with nx := PV F0 H0 (I (i + 1)), ct := PV F0 H0 (I (i + 1)), bk := tz D } ((I i).set j (.fz (RI (lo + (i : Int))))) tu) (hd : SJ F0 H0 D (I (n - lo).toNat) tz) : SJ F0 H0 D Γ (tSeq (tFor (iRng2 t) (gName j) tu) tz) :=
  sj_for2 (D := { D with nx := tz D }) h h0 I s0 hs hd
end
/-- the frozen base grown -/
structure Up (F0 H0 Fb : Hp) : Prop where
  f : Ex F0 Fb
  n : ∀ a, H0 a ≠ none → F0 a = none → Fb a = none
section
variable {F0 H0 Fb F1 H1 F H : Hp}
theorem Le.up (l : Le F0 H0 F1 H1) : Up F0 H0 F1 := ⟨l.f, l.n⟩
theorem Le.self (l : Le F0 H0 F1 H1) : Le F1 H0 F1 H1 := ⟨l.h, Ex.refl _, l.s, fun _ _ z => z⟩
theorem Le.base (l : Le Fb H0 F H) (u : Up F0 H0 Fb) : Le F0 H0 F H := ⟨l.h, u.f.trans l.f, l.s, fun a h0 hf => l.n a h0 (u.n a h0 hf)⟩
theorem Up.trans {Fc : Hp} (u : Up F0 H0 Fb) (v : Up Fb H0 Fc) : Up F0 H0 Fc := ⟨u.f.trans v.f, fun a h0 hf => v.n a h0 (u.n a h0 hf)⟩
theorem RTn.up {rt : VK} {R : Rp} (k : RTn F0 H0 rt R) (u : Up F0 H0 Fb) : RTn Fb H0 rt R := fun v F H l r => k v F H (l.base u) r
theorem NX.up {P : L2.St → Hp → Prop} {Γ : List Ty} (k : NX F0 H0 P Γ) (u : Up F0 H0 Fb) : NX Fb H0 P Γ := fun σ F H l o => k σ F H (l.base u) o
theorem SJ.up {D : Ends} {Γ : List Ty} {t : TS} (k : SJ F0 H0 D Γ t) (u : Up F0 H0 Fb) : SJ Fb H0 D Γ t := fun σ F H l o => k σ F H (l.base u) o
end
section
variable {F0 H0 : Hp} {D : Ends} {Γ : List Ty} {ta tb te : TE} {R : Rp} {Rs : List Rp} {tz tu tw : TS} {tt : TT} {b : Bool} {i : Nat} {K : PySem.W.Frag}
/-! ### loops over frozen lists, tuples -/
theorem sj_forL {j : Nat} (h : EV Γ ta (RL Rs)) (I : Nat → List Ty) (s0 : Sub Γ (I 0))
    (hs : ∀ Fb, Up F0 H0 Fb → ∀ i R, Rs[i]? = some R → SJ Fb H0 { D with nx := PV Fb H0 (I (i + 1)), ct := PV Fb H0 (I (i + 1)), bk := D.nx } ((I i).set j (.fz R)) tu) (hd : NX F0 H0 D.nx (I Rs.length)) : SJ F0 H0 D Γ (tFor (iList K ta) (gName j) tu) := fun σ F H e o =>
  h H0 F H σ e.s o _ fun v F1 H1 l1 r1 => by
    obtain ⟨l, vs, rfl, h1, it⟩ := r1
    have e1 := e.trans l1
    refine ⟨l, rfl, ⟨vs, .inl (.inl (l1.s _ _ h1))⟩, ?_⟩
    refine for_list (K := K) (a := l) (xs := vs) (fun i => PV F1 H0 (I i)) ⟨F1, e1.self, (o.le l1).sub s0⟩ (fun i σ' H' hi p => ?_) (fun i x σ' H' hi p => ?_) fun σ' H' p => ?_
    · obtain ⟨F', e', o'⟩ := p
      exact .inl (.inl (e'.s _ _ (e'.f _ _ h1)))
    · obtain ⟨F', e', o'⟩ := p
      obtain ⟨R, hR, rv⟩ := (it.mono e'.f).getV hi
      exact hs F1 e1.up i R hR _ F' H' e' (o'.set rv)
    · obtain ⟨F', e', o'⟩ := p
      rw [← it.len] at o'
      exact hd σ' F' H' (e'.base e1.up) o'
theorem q_forL {j : Nat} (h : EV Γ ta (RL Rs)) (I : Nat → List Ty) (s0 : Sub Γ (I 0))
    (hs : ∀ Fb, Up F0 H0 Fb → ∀ i R, Rs[i]? = some R → SJ Fb H0 { D with nx := PV Fb H0 (I (i + 1)), ct := PV Fb H0 (I (i + 1)), bk := tz D } ((I i).set j (.fz R)) tu) (hd : SJ F0 H0 D (I Rs.length) tz) : SJ F0 H0 D Γ (tSeq (tFor (iList K ta) (gName j) tu) tz) :=
  sj_forL (D := { D with nx := tz D }) h I s0 hs hd
theorem sj_forT {j : Nat} (h : EV Γ ta (RT Rs)) (I : Nat → List Ty) (s0 : Sub Γ (I 0))
    (hs : ∀ Fb, Up F0 H0 Fb → ∀ i R, Rs[i]? = some R → SJ Fb H0 { D with nx := PV Fb H0 (I (i + 1)), ct := PV Fb H0 (I (i + 1)), bk := D.nx } ((I i).set j (.fz R)) tu) (hd : NX F0 H0 D.nx (I Rs.length)) : SJ F0 H0 D Γ (tFor (iTup K ta) (gName j) tu) := fun σ F H e o =>
  h H0 F H σ e.s o _ fun v F1 H1 l1 r1 => by
    obtain ⟨l, vs, rfl, h1, it⟩ := r1
    have e1 := e.trans l1
    refine ⟨l, rfl, ⟨vs, .inl (.inl (l1.s _ _ h1))⟩, ?_⟩
    refine for_tup (K := K) (a := l) (xs := vs) (fun i => PV F1 H0 (I i)) ⟨F1, e1.self, (o.le l1).sub s0⟩ (fun i σ' H' hi p => ?_) (fun i x σ' H' hi p => ?_) fun σ' H' p => ?_
    · obtain ⟨F', e', o'⟩ := p
      exact .inl (.inl (e'.s _ _ (e'.f _ _ h1)))
    · obtain ⟨F', e', o'⟩ := p
      obtain ⟨R, hR, rv⟩ := (it.mono e'.f).getV hi
      exact hs F1 e1.up i R hR _ F' H' e' (o'.set rv)
    · obtain ⟨F', e', o'⟩ := p
      rw [← it.len] at o'
      exact hd σ' F' H' (e'.base e1.up) o'
theorem q_forT {j : Nat} (h : EV Γ ta (RT Rs)) (I : Nat → List Ty) (s0 : Sub Γ (I 0))
    (hs : ∀ Fb, Up F0 H0 Fb → ∀ i R, Rs[i]? = some R → SJ Fb H0 { D with nx := PV Fb H0 (I (i + 1)), ct := PV Fb H0 (I (i + 1)), bk := tz D } ((I i).set j (.fz R)) tu) (hd : SJ F0 H0 D (I Rs.length) tz) : SJ F0 H0 D Γ (tSeq (tFor (iTup K ta) (gName j) tu) tz) :=
  sj_forT (D := { D with nx := tz D }) h I s0 hs hd
/-- while: the context by the turn; the test's answer by the turn; it is false at turn n -/
theorem sj_while {Γ : List Ty} (n : Nat) (I : Nat → List Ty) (s0 : Sub Γ (I 0)) (ht : ∀ i, i ≤ n → ET (I i) tt (decide (i < n)))
    (hs : ∀ i, i < n → SJ F0 H0 { D with nx := PV F0 H0 (I (i + 1)), ct := PV F0 H0 (I (i + 1)), bk := D.nx } (I i) tu) (hd : NX F0 H0 D.nx (I n)) : SJ F0 H0 D Γ (tWhile tt tu) := fun σ F H e o => by
  refine ⟨fun m σ' H' => ∃ i, i + m = n ∧ PV F0 H0 (I i) σ' H', ⟨n, 0, by omega, F, e, o.sub s0⟩, fun m σ1 H1 w => ?_⟩
  obtain ⟨i, him, F1, e1, o1⟩ := w
  refine ht i (by omega) H0 F1 H1 σ1 e1.s o1 _ fun F2 H2 l2 => ?_
  by_cases hi : i < n
  · rw [decide_eq_true hi, if_pos rfl]
    refine ⟨PV F0 H0 (I (i + 1)), fun σ' H' p => ⟨m - 1, by omega, i + 1, by omega, p⟩, ?_⟩
    exact hs i hi σ1 F2 H2 (e1.trans l2) (o1.le l2)
  · rw [decide_eq_false hi, if_neg Bool.false_ne_true]
    have : i = n := by omega
    subst this
    exact hd σ1 F2 H2 (e1.trans l2) (o1.le l2)
theorem q_while {Γ : List Ty} (n : Nat) (I : Nat → List Ty) (s0 : Sub Γ (I 0)) (ht : ∀ i, i ≤ n → ET (I i) tt (decide (i < n)))
    (hs : ∀ i, i < n → SJ F0 H0 { D with nx := PV F0 H0 (I (i + 1)), ct := PV F0 H0 (I (i + 1)), bk := tz D } (I i) tu) (hd : SJ F0 H0 D (I n) tz) : SJ F0 H0 D Γ (tSeq (tWhile tt tu) tz) := sj_while (D := { D with nx := tz D }) n I s0 ht hs hd
end

/-! ### comprehensions -/
section
variable {Γ : List Ty} {ta tb te : TE} {R : Rp} {Rs Ss : List Rp} {K : PySem.W.Frag}
/-- a block's own slot, forgotten -/
theorem Ok.wipe {H0 F H : Hp} {σ : L2.St} {j : Nat} (k : Ok H0 Γ σ F H) (hj : ∀ T, Γ[j]? = some T → T.mov = false) : Ok H0 (Γ.set j .any) (wipe σ [j]) F H := k.wipe1 hj
theorem wipe_set {σ : L2.St} {j : Nat} {v : V} : wipe ((wipe σ [j]).set j (some v)) [j] = wipe σ [j] := by
  show ((σ.set j none).set j (some v)).set j none = σ.set j none
  rw [List.set_set, List.set_set]
theorem any_set {j : Nat} {T : Ty} : (Γ.set j .any).set j T = Γ.set j T := List.set_set ..
/-- what the new list D holds so far -/
def Cw (F1 H1 : Hp) (Rs : List Rp) (Dl : Addr) (i : Nat) (H' : Hp) : Prop := ∃ F' vs, Le F1 H1 F' H' ∧ F' Dl = none ∧ H' Dl = some (.lst vs) ∧ Its (Rs.take i) vs F'
theorem Cw.start {F1 H1 : Hp} {Dl : Addr} (e : Ex F1 H1) (hD : H1 Dl = none) : Cw F1 H1 Rs Dl 0 (upd H1 Dl (.lst [])) := ⟨F1, [], Le.alloc e hD, e.nn hD, upd_same, trivial⟩
theorem cw_turn {F1 H1 : Hp} {σ2 : L2.St} {Dl : Addr} {i : Nat} {H' : Hp} (hD : H1 Dl = none) (p : Cw F1 H1 Rs Dl i H') (hi : Rs[i]? = some R) (hz : Rs.length ≤ 1000000)
    (he : ∀ F', Le F1 H1 F' H' → ∀ Q : VK, (∀ v F2 H2, Le F' H' F2 H2 → R.r v F2 → Q v H2) → te σ2 H' Q) :
    te σ2 H' fun y H4 => ∃ acc, H4 Dl = some (.lst acc) ∧ acc.length < sizeLine ∧ Cw F1 H1 Rs Dl (i + 1) (upd H4 Dl (.lst (acc ++ [y]))) := by
  obtain ⟨F', vs, l1, nF, hl, it⟩ := p
  refine he F' l1 _ fun v F2 H2 l2 r => ?_
  have nF2 : F2 Dl = none := l2.n Dl (by rw [hl]; intro z; cases z) nF
  have hlt : i < Rs.length := (List.getElem?_eq_some_iff.mp hi).1
  refine ⟨vs, l2.h _ _ hl, ?_, F2, vs ++ [v], (l1.trans l2).mut hD nF2, nF2, upd_same, ?_⟩
  · rw [← it.len, List.length_take]
    exact Nat.lt_of_le_of_lt (show min i Rs.length ≤ 1000000 by omega) (by decide)
  · rw [List.take_add_one, hi]
    exact (it.mono l2.f).append ⟨r, trivial⟩
theorem Cw.done {F H F1 H1 : Hp} {Dl : Addr} {H' : Hp} {Q : VK} (l1 : Le F H F1 H1) (hD : H1 Dl = none) (p : Cw F1 H1 Rs Dl Rs.length H') (q : ∀ l vs F2 H2, Le F H F2 H2 → H l = none → F2 l = none → H2 l = some (.lst vs) → Its Rs vs F2 → Q (.ref l) H2) : Q (.ref Dl) H' := by
  obtain ⟨F', vs, l2, nF, hl, it⟩ := p
  rw [List.take_length] at it
  exact q Dl vs F' H' (l1.trans l2) (l1.h.nn hD) nF hl it
theorem yes_of {A B : Hp → Prop} {σ : L2.St} {H : Hp} (h : A H) : tYes σ H fun b H3 => if b = true then A H3 else B H3 := by
  show (if true = true then A H else B H)
  rw [if_pos rfl]
  exact h
/-- [e for j in range(n)] -/
theorem eo_lc1 {t : TA} {j : Nat} {n : Int} (h : EA Γ t [RI n]) (h0 : -1000000 ≤ n) (hn : Rs.length = n.toNat) (hz : n ≤ 1000000) (hj : ∀ T, Γ[j]? = some T → T.mov = false)
    (he : ∀ (i : Nat) R, Rs[i]? = some R → EV (Γ.set j (.fz (RI (i : Int)))) te R) : EO Γ (tLc (iRng1 t) (gName j) tYes te [j]) Rs := fun H0 F H σ e k Q q =>
  h H0 F H σ e k _ fun vs F1 H1 l1 it => by
    obtain rfl : vs = [.int n] := Its.ks (xs := [.int n]) it
    refine ⟨n, rfl, by omega, by omega, fun Dl hD => ?_⟩
    refine lc_range (lo := 0) (n := n.toNat) (Cw F1 H1 Rs Dl) (Cw.start l1.s hD) (fun i H' hi p => ?_) fun H' p => Cw.done l1 hD (by rw [hn]; exact p) q
    have hi' : i < Rs.length := by rw [hn]; exact hi
    refine ⟨wipe_set, yes_of ?_⟩
    refine cw_turn (σ2 := (wipe σ [j]).set j (some (.int (0 + (i : Int))))) hD p (List.getElem?_eq_getElem hi') (by omega) fun F' l2 Q' q' => ?_
    have o2 := (((k.le l1).le l2).wipe hj).set (i := j) (v := .int (0 + (i : Int))) (R := RI (i : Int)) (show V.int (0 + (i : Int)) = .int (i : Int) by rw [Int.zero_add])
    rw [any_set] at o2
    exact he i _ (List.getElem?_eq_getElem hi') H0 F' H' _ l2.s o2 Q' q'
/-- [e for j in range(lo, n)] -/
theorem eo_lc2 {t : TA} {j : Nat} {lo n : Int} (h : EA Γ t [RI lo, RI n]) (h0 : -1000000 ≤ lo ∧ lo ≤ 1000000 ∧ -1000000 ≤ n ∧ n ≤ 1000000) (hz : Rs.length ≤ 1000000) (hn : Rs.length = (n - lo).toNat) (hj : ∀ T, Γ[j]? = some T → T.mov = false)
    (he : ∀ (i : Nat) R, Rs[i]? = some R → EV (Γ.set j (.fz (RI (lo + (i : Int))))) te R) : EO Γ (tLc (iRng2 t) (gName j) tYes te [j]) Rs := fun H0 F H σ e k Q q =>
  h H0 F H σ e k _ fun vs F1 H1 l1 it => by
    obtain rfl : vs = [.int lo, .int n] := Its.ks (xs := [.int lo, .int n]) it
    refine ⟨lo, n, rfl, by omega, fun Dl hD => ?_⟩
    refine lc_range (lo := lo) (n := (n - lo).toNat) (Cw F1 H1 Rs Dl) (Cw.start l1.s hD) (fun i H' hi p => ?_) fun H' p => Cw.done l1 hD (by rw [hn]; exact p) q
    have hi' : i < Rs.length := by rw [hn]; exact hi
    refine ⟨wipe_set, yes_of ?_⟩
    refine cw_turn (σ2 := (wipe σ [j]).set j (some (.int (lo + (i : Int))))) hD p (List.getElem?_eq_getElem hi') (by omega) fun F' l2 Q' q' => ?_
    have o2 := (((k.le l1).le l2).wipe hj).set (i := j) (v := .int (lo + (i : Int))) (R := RI (lo + (i : Int))) rfl
    rw [any_set] at o2
    exact he i _ (List.getElem?_eq_getElem hi') H0 F' H' _ l2.s o2 Q' q'
/-- [e for j in xs], xs a frozen list -/
theorem eo_lcL {j : Nat} (h : EV Γ ta (RL Ss)) (hn : Rs.length = Ss.length) (hz : Rs.length ≤ 1000000) (hj : ∀ T, Γ[j]? = some T → T.mov = false)
    (he : ∀ (i : Nat) (S R : Rp), Ss[i]? = some S → Rs[i]? = some R → EV (Γ.set j (.fz S)) te R) : EO Γ (tLc (iList K ta) (gName j) tYes te [j]) Rs := fun H0 F H σ e k Q q =>
  h H0 F H σ e k _ fun v F1 H1 l1 r1 => by
    obtain ⟨l, vs, rfl, h1, it⟩ := r1
    refine ⟨l, rfl, ⟨vs, .inl (.inl (l1.s _ _ h1))⟩, fun Dl hD => ?_⟩
    refine lc_list (K := K) (a := l) (xs := vs) (Cw F1 H1 Rs Dl) (Cw.start l1.s hD) (fun i H' hi p => ?_) (fun i x H' hi p => ?_) fun H' p => Cw.done l1 hD (by rw [hn, it.len]; exact p) q
    · obtain ⟨F', _, l2, _⟩ := p
      exact .inl (.inl (l2.s _ _ (l2.f _ _ h1)))
    obtain ⟨S, hS, rv⟩ := it.getV hi
    have hi' : i < Rs.length := by rw [hn, it.len]; exact (List.getElem?_eq_some_iff.mp hi).1
    refine ⟨wipe_set, yes_of ?_⟩
    refine cw_turn (σ2 := (wipe σ [j]).set j (some x)) hD p (List.getElem?_eq_getElem hi') hz fun F' l2 Q' q' => ?_
    have o2 := (((k.le l1).le l2).wipe hj).set (i := j) (S.m _ _ _ l2.f rv)
    rw [any_set] at o2
    exact he i S _ hS (List.getElem?_eq_getElem hi') H0 F' H' _ l2.s o2 Q' q'
/-- .. a frozen tuple -/
theorem eo_lcT {j : Nat} (h : EV Γ ta (RT Ss)) (hn : Rs.length = Ss.length) (hz : Rs.length ≤ 1000000) (hj : ∀ T, Γ[j]? = some T → T.mov = false)
    (he : ∀ (i : Nat) (S R : Rp), Ss[i]? = some S → Rs[i]? = some R → EV (Γ.set j (.fz S)) te R) : EO Γ (tLc (iTup K ta) (gName j) tYes te [j]) Rs := fun H0 F H σ e k Q q =>
  h H0 F H σ e k _ fun v F1 H1 l1 r1 => by
    obtain ⟨l, vs, rfl, h1, it⟩ := r1
    refine ⟨l, rfl, ⟨vs, .inl (.inl (l1.s _ _ h1))⟩, fun Dl hD => ?_⟩
    refine lc_tup (K := K) (a := l) (xs := vs) (Cw F1 H1 Rs Dl) (Cw.start l1.s hD) (fun i H' hi p => ?_) (fun i x H' hi p => ?_) fun H' p => Cw.done l1 hD (by rw [hn, it.len]; exact p) q
    · obtain ⟨F', _, l2, _⟩ := p
      exact .inl (.inl (l2.s _ _ (l2.f _ _ h1)))
    obtain ⟨S, hS, rv⟩ := it.getV hi
    have hi' : i < Rs.length := by rw [hn, it.len]; exact (List.getElem?_eq_some_iff.mp hi).1
    refine ⟨wipe_set, yes_of ?_⟩
    refine cw_turn (σ2 := (wipe σ [j]).set j (some x)) hD p (List.getElem?_eq_getElem hi') hz fun F' l2 Q' q' => ?_
    have o2 := (((k.le l1).le l2).wipe hj).set (i := j) (S.m _ _ _ l2.f rv)
    rw [any_set] at o2
    exact he i S _ hS (List.getElem?_eq_getElem hi') H0 F' H' _ l2.s o2 Q' q'
end
end G
end
section
set_option maxRecDepth 100000
set_option maxHeartbeats 4000000
/-! A def, its promise, its calls. -/
namespace G
open PySem PySem.Spec PyProof.Rows L2
/-! ### entry -/
theorem Its.fzAt : ∀ {As : List Rp} {vs : List V} {F : Hp} {i : Nat} {T : Ty}, Its As vs F → (As.map Ty.fz)[i]? = some T → ∃ R v, T = .fz R ∧ (vs.map some)[i]? = some (some v) ∧ R.r v F
  | [], _, _, _, _, _, e => by simp at e
  | _ :: _, [], _, _, _, h, _ => h.elim
  | R :: As, v :: vs, F, 0, T, h, e => by
    simp at e; subst e; exact ⟨R, v, rfl, rfl, h.1⟩
  | R :: As, v :: vs, F, i + 1, T, h, e => by
    simp at e
    obtain ⟨R', u, h1, h2, h3⟩ := Its.fzAt (i := i) h.2 (by simpa using e)
    exact ⟨R', u, h1, by simpa using h2, h3⟩
def ctx (As : List Rp) (m : Nat) : List Ty := As.map Ty.fz ++ List.replicate m .any
theorem ctx_fix {As : List Rp} {m i : Nat} {T : Ty} (e : (ctx As m)[i]? = some T) : T.mov = false := by
  have h := List.mem_of_getElem? e
  rcases List.mem_append.mp h with h | h
  · obtain ⟨R, _, rfl⟩ := List.mem_map.mp h; rfl
  · rw [List.eq_of_mem_replicate h]; rfl
theorem Ok.start {H0 F H : Hp} {N : List Str} {As : List Rp} {vs : List V} (it : Its As vs F) : Ok H0 (ctx As (N.length - As.length)) (start N vs) F H := by
  have hl := it.len
  refine ⟨by unfold L2.start ctx; rw [List.length_append, List.length_append, List.length_map, List.length_map, List.length_replicate, List.length_replicate, hl], fun i T e => ?_, fun i j T U l hij e1 e2 m1 m2 _ _ => ?_⟩
  · unfold ctx at e
    by_cases hi : i < As.length
    · rw [List.getElem?_append_left (by rw [List.length_map]; exact hi)] at e
      obtain ⟨R, v, rfl, h2, h3⟩ := it.fzAt e
      refine ⟨v, ?_, h3⟩
      unfold L2.start
      rw [List.getElem?_append_left (by rw [List.length_map, ← hl]; exact hi)]
      exact h2
    · rw [List.getElem?_append_right (by rw [List.length_map]; omega)] at e
      rw [List.eq_of_mem_replicate (List.mem_of_getElem? e)]
      trivial
  · rw [ctx_fix e1] at m1; cases m1
section
variable {P : Program} {w : World} {K : PySem.W.Frag} {mg : Str → Option Value} {base : Heap}
abbrev DefF (K : PySem.W.Frag) (x qual : Str) (st : Stmt) (dvs : List V) (kws : List (Str × V)) (f : Addr) (fd : FuncData) : Prop := FunD K x qual (defArgs st) (defBody st) (defScope st) dvs kws f fd
/-- THE RULE for a def of a family of promises -/
theorem def_ok {x qual : Str} {st : Stmt} {dvs : List V} {kws : List (Str × V)} {f : Addr} {fd : FuncData} {N ps : List Str} {k : Nat} {ι : Type} {hy : ι → Prop} {A : ι → List Rp} {B : ι → Rp} (F : DefF K x qual st dvs kws f fd) (S : FnScope N ps (defScope st)) (hl : ∀ i, (A i).length = ps.length)
    (hbody : ∀ (cdv : Value) (A' : Around) (outer : List Env) (s : Shared) (H : Hp) (E : XK), Room k (A'.deeper (envOfC qual (defScope st) s.heap.objs.size f cdv)) →
      ∃ t, PSs (cxOf CX0 P w K mg base N qual (defScope st) f cdv A' outer s H E).nox (defBody st) t ∧ ∀ i, hy i → ∀ (F0 H0 : Hp) (Q : VK), RTn F0 H0 Q (B i) → SJ F0 H0 { nx := fun _ H' => Q .non H', rt := Q } (ctx (A i) (N.length - ps.length)) t) :
    FnOk P w K mg base CX0 (k + 1) f fd ps (SpG hy A B) := by
  refine F.ok S (fun vs H Q E h => ?_) fun cdv A' outer s H vs Q E hr h => ?_
  · obtain ⟨i, _, h⟩ := h
    rw [h.len, hl]
  · obtain ⟨t, d, r⟩ := hbody cdv A' outer s H E hr
    obtain ⟨i, hi, F0, ex, it, q⟩ := h
    refine ⟨t, d.nox, ?_⟩
    have o : Ok H (ctx (A i) (N.length - (A i).length)) (L2.start N vs) F0 H := Ok.start it
    rw [hl] at o
    exact r i hi F0 H Q q _ F0 H (Le.refl ex) o
/-- what callers use of a def -/
def Pr (P : Program) (w : World) (K : PySem.W.Frag) (mg : Str → Option Value) (base : Heap) (k : Nat) (f : Addr) (ps : List Str) (dvs : List V) (sp : Sp) : Prop :=
  ∃ fd ds, FnOk P w K mg base CX0 k f fd ps sp ∧ Binds K fd ps ds ∧ Vals dvs ds ∧ PySem.W.keepIn K (.ref f) = true
theorem pr_mk {x qual : Str} {st : Stmt} {kws : List (Str × V)} {f : Addr} {fd : FuncData} {ps : List Str} {k : Nat} {sp : Sp} (F : DefF K x qual st [] kws f fd) (h : FnOk P w K mg base CX0 k f fd ps sp) (b : Binds K fd ps []) : Pr P w K mg base k f ps [] sp :=
  ⟨fd, [], h, b, .nil, F.kp⟩
section
variable {X : Cx} {k k' : Nat} {f C : Addr} {ps : List Str} {sp : Sp} {dvs : List V} {x m : Str} {p pos apos : Pos} {e o : Expr} {es : List Expr} {ta : TE} {t : TA}
theorem pe_callP (h : Pr X.prog X.w X.K X.mg X.base k' f ps dvs sp) (hr : Room k X.A) (hk : k' ≤ k) (hg : Gl X x) (hm : X.mg x = some (.ref f)) (ha : PA X (e :: es) t) (hdb : (x == ("__debug__" : Str)) = false := by decide)
    (he : starEach (e :: es) X.env = (false, eval e X.env) :: starEach es X.env := by rfl) (hpl : (backTo pos (starEach es X.env)).any (·.1) = false := by rfl) : PE X (.Call (.Name x p) (e :: es) [] pos) (tCall sp dvs E0 t) := by
  obtain ⟨fd, ds, F, b, v, kp⟩ := h
  exact pe_call F (hr.mono hk) hg hm kp b v L2.pass0 ha hdb he hpl
end
end
/-! ### the text by places -/
def top (i : Nat) : Stmt := PySem.Challenge.pw_certsums_k89_whole_sums_decided.main.body.getD i (.Pass ⟨0, 0, 0, 0⟩)
end G
end
section
set_option maxRecDepth 100000
set_option maxHeartbeats 4000000
/-! Rules that the layer lacks: operators of own classes, static methods, great divisions, lcm, enumerate over a tuple. -/
namespace G
open PySem PySem.Spec PyProof.Rows L2
section
variable {X : Cx} {k k' : Nat} {f C g : Addr} {ps : List Str} {sp : Sp} {dvs : List V}
/-! ### own operators -/
def rOwn2 (C : Addr) (sp : Sp) : R2 := fun x y H Q => ∃ a dx fs b dy gs, x = .ref a ∧ y = .ref b ∧ H a = some (.ins C dx fs) ∧ H b = some (.ins C dy gs) ∧ sp [x, y] H Q E0
theorem op_bin {op : Operator} (h : Pr X.prog X.w X.K X.mg X.base k' f ps [] sp) (hs : PySem.W.findIn X.K (.ref C) (PySem.dunder op.info.2) = some (some (.ref f))) (hf : PySem.W.isFn X.K (.ref f) = true) (hc : PySem.W.selfFirst X.K C = true)
    (hr : Room k X.A) (hk : k' ≤ k) : OpR X (binaryOp op) (rOwn2 C sp) := by
  intro pins s σ H x y v u Q I rx ry hq
  obtain ⟨a, dx, fs, b, dy, gs, rfl, rfl, ha, hb, q⟩ := hq
  cases (show v = Value.ref a from rx)
  cases (show u = Value.ref b from ry)
  obtain ⟨fd, ds, F, bd, vd, kp⟩ := h
  cases vd
  obtain ⟨mA, J, _⟩ := ins_get I.hok ha
  obtain ⟨mB, J', _⟩ := ins_get I.hok hb
  obtain ⟨od, J, _⟩ := J.look
  obtain ⟨od', J', _⟩ := J'.look
  obtain ⟨m, hF⟩ := I.fr
  refine PySem.W.binop_K hF I.ok.mod.kin J J'.type hc hs hf ?_
  exact wpAny_mono (run_fn (us := [.ref a, .ref b]) (vs := [.ref a, .ref b]) F (hr.mono hk) bd .nil L2.pass0 I (.cons rfl (.cons rfl .nil)) q) (fun w s' ⟨z, H', I', rz, qz⟩ => SlX.cmpback rz ⟨z, H', I', rz, qz⟩) fun _ _ e => e
theorem op_eqOwn (h : Pr X.prog X.w X.K X.mg X.base k' f ps [] sp) (hs : PySem.W.findIn X.K (.ref C) "__eq__" = some (some (.ref f))) (hf : PySem.W.isFn X.K (.ref f) = true)
    (hr : Room k X.A) (hk : k' ≤ k) : OpR X (compareOp .Eq) (rOwn2 C sp) := by
  intro pins s σ H x y v u Q I rx ry hq
  obtain ⟨a, dx, fs, b, dy, gs, rfl, rfl, ha, hb, q⟩ := hq
  cases (show v = Value.ref a from rx)
  cases (show u = Value.ref b from ry)
  obtain ⟨fd, ds, F, bd, vd, kp⟩ := h
  cases vd
  obtain ⟨mA, J, _⟩ := ins_get I.hok ha
  obtain ⟨mB, J', _⟩ := ins_get I.hok hb
  obtain ⟨od, J, _⟩ := J.look
  obtain ⟨od', J', _⟩ := J'.look
  obtain ⟨m, hF⟩ := I.fr
  show wpAny (model X.prog X.w) X.A (richCompare .Eq (.ref a) (.ref b)) _ _ _
  refine PySem.W.cmp_K (op := .Eq) (tb := .ref C) hr.units0 hF I.ok.mod.kin J J'.type (by simp [PySem.W.notFirst]) hs hf ?_
  exact wpAny_mono (run_fn (us := [.ref a, .ref b]) (vs := [.ref a, .ref b]) F (hr.mono hk) bd .nil L2.pass0 I (.cons rfl (.cons rfl .nil)) q) (fun w s' ⟨z, H', I', rz, qz⟩ => SlX.cmpback rz ⟨z, H', I', rz, qz⟩) fun _ _ e => e
def rOwn1 (C : Addr) (sp : Sp) : V → Hp → VK → Prop := fun x H Q => ∃ a dx fs, x = .ref a ∧ H a = some (.ins C dx fs) ∧ sp [x] H Q E0
theorem un_negOwn (h : Pr X.prog X.w X.K X.mg X.base k' f ps [] sp) (hs : PySem.W.findIn X.K (.ref C) "__neg__" = some (some (.ref f))) (hf : PySem.W.isFn X.K (.ref f) = true)
    (hr : Room k X.A) (hk : k' ≤ k) : UnR X (unaryOp .USub) (rOwn1 C sp) := by
  intro pins s σ H x v Q I rx hq
  obtain ⟨a, dx, fs, rfl, ha, q⟩ := hq
  cases (show v = Value.ref a from rx)
  obtain ⟨fd, ds, F, bd, vd, kp⟩ := h
  cases vd
  obtain ⟨mA, J, _⟩ := ins_get I.hok ha
  obtain ⟨od, J, _⟩ := J.look
  obtain ⟨m, hF⟩ := I.fr
  refine PySem.W.ksp_neg hF I.ok.mod.kin J hs hf ?_
  exact run_fn (us := [.ref a]) (vs := [.ref a]) F (hr.mono hk) bd .nil L2.pass0 I (.cons rfl .nil) q
/-! ### static methods -/
/-- the class at C, read as a value, has a static method m: its def at f -/
structure Stat (K : PySem.W.Frag) (C : Addr) (m : Str) (f : Addr) : Prop where
  ga : PySem.W.specialIn K (.ref C) "__getattribute__" = some (some (.builtin "type.__getattribute__"))
  ty : PySem.W.typeIn K (.ref C) = some (.type "type")
  rd : PySem.W.readsIn K C (.type "type") = true
  at_ : ∃ p, PySem.W.findCls K (.ref C) (.type "type") m = some (.get (.builtin "staticmethod.__get__") (.ref p) .none (.ref C)) ∧ ∃ rest, PySem.W.recIn K p "staticmethod" = some (.ref f :: rest)
theorem pe_stat {x m : Str} {p pos apos : Pos} {e : Expr} {es : List Expr} {t : TA} {pl : Sem Bool} (h : Pr X.prog X.w X.K X.mg X.base k' f ps dvs sp) (S : Stat X.K C m f) (hr : Room k X.A) (hk : k' ≤ k) (hg : Gl X x) (hm : X.mg x = some (.ref C)) (ha : PA X (e :: es) t)
    (hdb : (x == ("__debug__" : Str)) = false := by decide) (hst : starEach (e :: es) X.env = (false, eval e X.env) :: starEach es X.env := by rfl) (hpl : (backTo pos (starEach es X.env)).any (·.1) = false := by rfl)
    (ht : eval (.Call (.Attribute (.Name x p) m apos) (e :: es) [] pos) X.env = (do
      let ov ← eval (.Name x p) X.env
      standAt apos.atName
      let (f, first) ← holding [ov] (getMethod ov m pl)
      callWith pos f first (backTo pos (starEach (e :: es) X.env)) (backToKw pos (keywordEach [] X.env))) := by rfl) :
    PE X (.Call (.Attribute (.Name x p) m apos) (e :: es) [] pos) (tCall sp dvs E0 t) := by
  refine ⟨fun pins s σ H Q I hq => ?_⟩
  obtain ⟨fd, ds, F, bd, vd, kp⟩ := h
  obtain ⟨q, hfc, rest, hrec⟩ := S.at_
  obtain ⟨m', hF⟩ := I.fr
  refine PySem.W.methodCall_KW (pl := pl) (ld_glob I hg hm ?_ hdb) ht
  refine PySem.W.method_cls I.kIn S.ga ?_
  refine PySem.W.cls_sm hF I.ok.mod.kin S.ty S.rd hfc hrec rfl ?_
  have I1 := I.tok (s.toks + 1)
  refine PySem.W.callWith_K (h₀ := X.base) I.ok.mod.kin kp (thn (ha.run pos pins { s with toks := s.toks + 1 } σ H _ I1 hq) fun us s2 ⟨vs, H2, I2, r, q2⟩ => ⟨I2.kIn, ?_⟩) hst hpl
  exact run_fn (us := us) (vs := vs) F (hr.mono hk) bd vd L2.pass0 I2 r q2
/-! ### great division -/
/-- nobody listens, and the running frame is a plain one of the module -/
structure Qu (X : Cx) : Prop where
  ns : X.base.NoSeer
  tr : X.prog.given.tree = none
  st : ∃ env l, X.stack = env :: l ∧ env.scope.isGenerator = false ∧ env.scope.isCoroutine = false ∧ env.builtins = builtinsNs ∧ env.globals = mainGlobals
theorem qu_room {pins : List (Addr × Obj)} {s : Shared} {σ : L2.St} {H : Hp} (q : Qu X) (hr : Room 40 X.A) (I : Inv X pins σ H s) : PySem.PylongRoom (model X.prog X.w) X.A s := by
  obtain ⟨env, l, e, h1, h2, h3, h4⟩ := q.st
  refine PySem.PylongRoom.of I.nolimit ?_ (PySem.SeerAt.of (env := env) (l := l) (q.ns.keeps I.bk) q.tr (by rw [I.ok.frames, e]) h1 h2 h3 h4)
  have d := hr.dp
  show X.A.depth + 100 < recursionLimit
  omega
def rFdiv : R2 := rI (fun _ j => j ≠ 0) fun i j => .int (i.fdiv j)
theorem op_fdivP (q : Qu X) (hr : Room k X.A) (hk : 40 ≤ k) : OpR X (binaryOp .FloorDiv) rFdiv := by
  intro pins s σ H x y v u Q I rx ry h
  obtain ⟨i, j, rfl, rfl, hc, h⟩ := h
  obtain ⟨t, rfl⟩ := rx
  obtain ⟨t', rfl⟩ := ry
  exact floordiv_int hc ⟨.int _, H, I.tok _, ⟨_, rfl⟩, h⟩ (.inr (qu_room q (hr.mono hk) I))
/-! ### products -/
/-- the bits of both together within the line (2^27) -/
def CMulB (i j : Int) : Prop := i.natAbs.log2 + j.natAbs.log2 < 130000000
theorem CMulB.ok {i j : Int} (h : CMulB i j) : IntMulOk i j := by
  have b : ∀ x : Int, Builtin.Int.intBits x ≤ x.natAbs.log2 + 1 := fun x => by
    unfold Builtin.Int.intBits
    split <;> omega
  have h1 := b i
  have h2 := b j
  have h3 : i.natAbs.log2 + j.natAbs.log2 < 130000000 := h
  intro z
  rw [Bool.and_eq_true] at z
  have z2 := z.2
  unfold Builtin.Int.intTooBig at z2
  have z3 := of_decide_eq_true z2
  rw [bitsLine_eq] at z3
  omega
def rMulB : R2 := rI CMulB fun i j => .int (i * j)
theorem op_mulB : OpR X (binaryOp .Mult) rMulB := by
  intro pins s σ H x y v u Q I rx ry h
  obtain ⟨i, j, rfl, rfl, hc, h⟩ := h
  obtain ⟨t, rfl⟩ := rx
  obtain ⟨t', rfl⟩ := ry
  exact mul_int ⟨.int _, H, I.tok _, ⟨_, rfl⟩, h⟩ hc.ok
/-! ### lcm -/
def rLcm : List V → Hp → VK → Prop := fun vs H Q => ∃ a b : Int, vs = [.int a, .int b] ∧ a.natAbs < 2 ^ 100 ∧ b.natAbs < 2 ^ 100 ∧ Q (.int ((Nat.lcm a.natAbs b.natAbs : Nat) : Int)) H
theorem log_lt {n k : Nat} (h : n < 2 ^ (k + 1)) : n.log2 ≤ k := PySem.W.mg_log h
theorem cr_lcm : CallR X (.builtin "math.lcm") rLcm := by
  intro pins s σ H vs us Q I r h
  obtain ⟨a, b, rfl, ha, hb, q⟩ := h
  obtain ⟨t, u, rfl⟩ := Vals.int2 r
  have e : Nat.lcm 1 a.natAbs = a.natAbs := Nat.lcm_one_left _
  have l1 : (max 1 a.natAbs).log2 ≤ 99 := log_lt (by omega)
  have l2 : (max a.natAbs b.natAbs).log2 ≤ 99 := log_lt (by omega)
  have hl : (Nat.lcm a.natAbs b.natAbs) < 2 ^ 200 := by
    by_cases h0 : a.natAbs = 0
    · rw [h0, Nat.lcm_zero_left]; exact Nat.pow_pos (by decide)
    by_cases h1 : b.natAbs = 0
    · rw [h1, Nat.lcm_zero_right]; exact Nat.pow_pos (by decide)
    have : Nat.lcm a.natAbs b.natAbs ≤ a.natAbs * b.natAbs := Nat.le_of_dvd (Nat.mul_pos (by omega) (by omega)) (Nat.lcm_dvd_mul _ _)
    have h2 : a.natAbs * b.natAbs < 2 ^ 100 * 2 ^ 100 := Nat.mul_lt_mul'' ha hb
    rw [← Nat.pow_add] at h2
    omega
  have hs : ((((Nat.lcm 1 a.natAbs).lcm b.natAbs : Nat) : Int)).natAbs.log2 < bitsLine := by
    rw [e, Int.natAbs_natCast, bitsLine_eq]
    exact Nat.lt_of_le_of_lt (log_lt (k := 199) hl) (by decide)
  refine PySem.call_function_meets PySem.W.MGF.kind_lcm PySem.W.MGF.plain_lcm PySem.W.MGF.entry_lcm (PySem.W.MGF.args_lcm _ _) (PySem.W.mg_run_lcm a t b u (by omega) (by omega) hs).meets ?_
  rw [e]
  exact ⟨.int _, H, I.tok _, ⟨_, rfl⟩, q⟩
end
end G
end
section
set_option maxRecDepth 100000
set_option maxHeartbeats 4000000
/-! enumerate over a tuple. -/
namespace G
open PySem PySem.Spec PyProof.Rows L2
open AutoSeq1 (wpAny_loadPart')
/-- its making -/
theorem enumT_new {v : Value} {o : Obj} {Z : Heap → Prop} (B : Begins v o Z) :
    Meets (Builtin.«enumerate.__new__» ⟨[.type "enumerate", v], []⟩) (fun _ R s => Z s.heap ∧
      R (.ok (.ret (.ref (s.heap.push o).objs.size))) { s with heap := (s.heap.push o).push { cls := .type "enumerate", data := .fields #[.none, .bool false, .ref s.heap.objs.size, rawInt 0, .none, .none] } }) :=
  .of_wp fun prog w A R s hh => by
    obtain ⟨hp, g, d, tk, os⟩ := s
    obtain ⟨z1, h⟩ := hh
    have hsub := sub_enumerate
    have go : ∀ {A' : Around} {E Q : Value → Shared → Prop}, Q (.ref hp.objs.size) ⟨hp.push o, g, d, tk, os⟩ → wpAny (model prog w) A' (pyIter v) Q E ⟨hp, g, d, tk, os⟩ :=
      fun q => B.iter prog w _ _ ⟨hp, g, d, tk, os⟩ _ z1 q
    wp_walk using go
    refine wpAny_stack_any fun st => wpAny_pure ?_
    split
    · rename_i c _ _ _ _ _
      cases (c == Value.type "enumerate") <;> (wp_walk using go; exact ⟨_, rfl, h⟩)
    · wp_walk using go
      exact ⟨_, rfl, h⟩
theorem enumT_call {prog : Program} {w : World} {A : Around} {E : Value → Shared → Prop} {s : Shared} {l : Addr} {items : Array Value} {Q : Value → Shared → Prop} (hT : s.heap.IsTuple l items)
    (h : ∀ h', IsEnum h' (s.heap.objs.size + 1) s.heap.objs.size 0 .none → h'.IsTupleIter s.heap.objs.size l 0 → h'.objs.size = s.heap.objs.size + 2 →
      (∀ b o, s.heap.get? b = some o → h'.get? b = some o) → Q (.ref (s.heap.objs.size + 1)) { s with heap := h' }) :
    wpAny (model prog w) A (call (.type "enumerate") [.ref l]) Q E s := by
  refine callType_new F.called_enumerate (by decide) (F.typeCall_enumerate_1 _) (F.newCall_enumerate_1 _) (fun obj => F.args_object_init_2 obj _) F.entry_enumerate_new
    (enumT_new (begins_tuple l items)) ⟨hT, ?_⟩
  have hz : (s.heap.push ({ cls := .type "tuple_iterator", data := .fields #[.ref l, .int 0 0] } : Obj)).objs.size = s.heap.objs.size + 1 := Heap.size_push ..
  show _ ∧ _
  rw [hz]
  have he : IsEnum ((s.heap.push ({ cls := .type "tuple_iterator", data := .fields #[.ref l, .int 0 0] } : Obj)).push { cls := .type "enumerate", data := .fields #[.none, .bool false, .ref s.heap.objs.size, rawInt 0, .none, .none] }) (s.heap.objs.size + 1) s.heap.objs.size 0 .none := by
    have z := Heap.get?_push_size (s.heap.push ({ cls := .type "tuple_iterator", data := .fields #[.ref l, .int 0 0] } : Obj)) (o := { cls := .type "enumerate", data := .fields #[.none, .bool false, .ref s.heap.objs.size, rawInt 0, .none, .none] }) rfl
    rw [hz] at z
    exact z
  refine ⟨⟨_, he, rfl⟩, h _ he ?_ (by rw [Heap.size_push, hz]) fun b o x => Heap.get?_push_of_some _ (Heap.get?_push_of_some _ x)⟩
  exact ⟨_, Heap.get?_push_of_some _ (Heap.get?_push_size _ rfl), rfl, rfl⟩
theorem enumT_end {prog : Program} {w : World} {A : Around} {E : Value → Shared → Prop} {s : Shared} {e it l : Addr} {i : Nat} {items : Array Value} {old : Value} {Q : Option Value → Shared → Prop} (hh : A.handled = none)
    (he : IsEnum s.heap e it i old) (hit : s.heap.IsTupleIter it l i) (hl : s.heap.IsTuple l items) (hx : items[i]? = none)
    (hQ : ∀ h', Heap.ExtBut it s.heap h' → Q none { s with heap := h' }) : wpAny (model prog w) A (pyNext (.ref e)) Q E s := by
  have ty : s.TypeIs (.ref e) "enumerate" := ⟨_, he, rfl⟩
  unfold pyNext
  have body : ∀ (Q' : Fin → Shared → Prop) (E' : Value → Shared → Prop), (∀ h' x, Heap.ExtBut it s.heap h' → (∃ o, h'.get? x = some o ∧ o.cls = .type "StopIteration") → E' (.ref x) { s with heap := h' }) →
      wpAny (model prog w) A.in1 (Builtin.«enumerate.__next__» ⟨[.ref e], []⟩) Q' E' s := fun Q' E' z => by
    show wpAny _ _ (field (.ref e) 2 >>= _) _ _ _
    refine wpAny_bind (wpAny_field he rfl (x := .ref it) rfl (wpAny_bind ?_))
    exact wpAny_nextOf_tuple_end hh hit hl hx z
  refine wpAny_bind (wpAny_attempt (wpAny_callSpecial?_slot (name := Str.ofString "__next__") ty F.slot_enumerate_next
    (wpAny_call_entry F.slot_enumerate_next ty F.entry_enumerate_next (body _ _ fun h' x he' hx' => ?_) (F.args_enumerate_next_1 _))))
  obtain ⟨o, ho, hc⟩ := hx'
  exact wpAny_bind (wpAny_isInstance (T := "StopIteration") (b := true) ⟨o, ho, hc⟩ isSubtype_stop (wpAny_pure (hQ _ he')))
/-- the tuple at a, each item with its place in a new pair -/
def IteT (K : PySem.W.Frag) (a : Addr) : It :=
  ⟨fun i H => ∃ (xs : List V) (x : V), SqT K H a xs ∧ xs[i]? = some x,
    fun i H v H' => ∃ T x, v = .ref T ∧ H T = none ∧ H' = upd H T (.tup [.int (i : Nat), x]) ∧ ∀ xs, SqT K H a xs → xs[i]? = some x,
    fun i H => ∃ xs : List V, SqT K H a xs ∧ xs.length ≤ i⟩
theorem turn_enumT {P : Program} {w : World} {K : PySem.W.Frag} {elts : List Expr} {kk : Nat} {tpos : Pos} (a e it : Addr) (hai : a ≠ it) (hae : a ≠ e) :
    Turn P w K (.Tuple elts kk tpos) (IteT K a) [e, it] e (fun i h => (∃ old, IsEnum h e it ((i : Nat) : Int) old) ∧ h.IsTupleIter it a i ∧ e ≠ it) where
  mem := by simp
  obj := fun i h st b hb => by
    obtain ⟨⟨old, he⟩, ⟨o, ho, hc, hd⟩, _⟩ := st
    rcases (show b = e ∨ b = it by simpa using hb) with z | z
    · rw [z]; exact ⟨_, he, fun v q => nomatch q⟩
    · rw [z]; exact ⟨o, ho, fun v q => by rw [hd] at q; cases q⟩
  keep := fun i h h' st k => ⟨let ⟨old, he⟩ := st.1; ⟨old, k e (by simp) _ he⟩, st.2.1.at fun o q => k it (by simp) o q, st.2.2⟩
  item := by
    intro X hP hw hK hc i pins s σ H E I hf st hg
    subst hP hw hK
    obtain ⟨⟨old, he⟩, hit, hne⟩ := st
    obtain ⟨xs, x, hq, hx⟩ := hg
    obtain ⟨its, rv, p, hz⟩ := I.tuple hq
    obtain ⟨u, hu, ru⟩ := rv.get hx
    have hel : e < s.heap.objs.size := Heap.lt_size he
    have hil : it < s.heap.objs.size := by obtain ⟨_, q, _⟩ := hit; exact Heap.lt_size q
    have hlt : i < its.toArray.size := by rw [List.size_toArray]; exact (List.getElem?_eq_some_iff.mp hu).1
    refine wpAny_pyNext_enum_itemD (Draws.tuple (A := X.A.in1) (show X.A.in1.handled = none from I.ok.hd hc) it a hai its.toArray) he ⟨hit, p⟩ hlt hne (by simp [hne, Ne.symm hae]) fun y h' tk hy ho hst hT hsz hk => ?_
    obtain rfl : u = y := by
      have q : its.toArray[i]? = some y := hy
      rw [show its.toArray[i]? = some u by simpa using hu] at q
      exact Option.some.inj q
    refine ⟨_, rfl, wpAny_letOwnedTupleGo_enum (s := { s with heap := h', toks := tk + 1 }) ho fun h'' he' sb => ?_⟩
    have hT2 : h''.get? s.heap.objs.size = some { cls := .type "tuple", data := .seq #[.int i tk, u] } := (sb.2 _ (Nat.ne_of_gt hel)).trans hT
    have new : ObjOk X.prog X.w (upd H s.heap.objs.size (.tup [.int (i : Nat), x])) h'' s.heap.objs.size (.tup [.int (i : Nat), x]) :=
      ⟨by show 2 ≤ sizeLine; decide, [.int i tk, u], .cons ⟨_, rfl⟩ (.cons ru .nil), ⟨_, hT2, rfl, _, rfl⟩⟩
    have I1 : Inv X pins σ (upd H s.heap.objs.size (.tup [.int (i : Nat), x])) { s with heap := h'', toks := tk + 1 } :=
      I.turnedNew (ch := [e, it]) (fun b ob hb q => (sb.2 b (fun z => hb (by simp [z]))).trans (hk b ob (fun z => hb (by simp [z])) (fun z => hb (by simp [z])) q)) hf (Nat.le_refl _) new
    refine ⟨.ref s.heap.objs.size, _, I1, rfl, ⟨_, x, rfl, I.hok.fresh (Nat.le_refl _), rfl, fun ys hy => by rw [I.tuple_inj hy hq]; exact hx⟩, ⟨⟨u, ?_⟩, hst.1.at fun o q => (sb.2 it (Ne.symm hne)).trans q, hne⟩, fun b hb => ?_⟩
    · rw [show ((i + 1 : Nat) : Int) = (i : Int) + 1 by omega]
      exact he'
    · have hb' : b < s.heap.objs.size := by
        rcases (show b = e ∨ b = it by simpa using hb) with z | z
        · rw [z]; exact hel
        · rw [z]; exact hil
      rw [upd_ne (Nat.ne_of_lt hb')]
      exact (hf b hb).1
  done := by
    intro X hP hw hK hc i pins s σ H E I hf st hg
    subst hP hw hK
    obtain ⟨⟨old, he⟩, hit, hne⟩ := st
    obtain ⟨xs, hq, hx⟩ := hg
    obtain ⟨its, rv, p, hz⟩ := I.tuple hq
    obtain ⟨f0, f1, f2, f3, f4, f5⟩ := hf it (by simp)
    have hl := rv.length
    have hit2 : s.heap.IsTupleIter it a i := hit
    refine enumT_end (I.ok.hd hc) he hit p (by simp; omega) fun h' eb => ⟨rfl, I.turned (t' := s.toks) (fun b o hb q => eb b o hb q) f0 f1 f3 f4 f5⟩
  self := fun A i s Q E st h => let ⟨⟨_, he⟩, _⟩ := st; wpAny_pyIter_enum he h
end G
end
section
set_option maxRecDepth 100000
set_option maxHeartbeats 4000000
/-! More loops over the contexts: enumerate and reversed over a tuple, falling ranges, zip in a comprehension. -/
namespace G
open PySem PySem.Spec PyProof.Rows L2
open _root_.RT (ItvT iRevA pi_revA)
theorem walk_enumT {K : PySem.W.Frag} {a : Addr} {xs : List V} : Walk (IteT K a) xs.length (fun H => SqT K H a xs) (YPair (fun i => some (.int (i : Nat))) (fun i => xs[i]?)) where
  goes := fun i H hi h => ⟨xs, xs[i], h, by simp [hi]⟩
  stops := fun H h => ⟨xs, h, Nat.le_refl _⟩
  yields := fun i H v H' hi h y => by
    obtain ⟨T, x, e1, e2, e3, e4⟩ := y
    exact ⟨T, _, x, e1, e2, e3, rfl, e4 xs h⟩
theorem walk_revT {K : PySem.W.Frag} {a : Addr} {xs : List V} : Walk (ItvT K a xs.length) xs.length (fun H => SqT K H a xs) (fun i H x H' => H' = H ∧ xs[xs.length - 1 - i]? = some x) where
  goes := fun i H hi h => ⟨hi, xs, xs[xs.length - 1 - i], h, by simp⟩
  stops := fun H h => Nat.le_refl _
  yields := fun i H v H' hi h y => ⟨y.1, y.2 xs h⟩
def iEnumT (K : PySem.W.Frag) (ta : TA) : TI := fun σ H R => ta σ H fun vs H1 => ∃ a xs, vs = [.ref a] ∧ SqT K H1 a xs ∧ R (IteT K a) H1
theorem pi_enumT {X : Cx} {e : Expr} {ta : TA} {p pos tpos : Pos} {elts : List Expr} {kk : Nat} (hg : Gl X "enumerate") (hm : X.mg "enumerate" = none) (ha : PA X [e] ta) (hs : starEach [e] X.env = [(false, eval e X.env)] := by rfl) :
    PI X (.Tuple elts kk tpos) (.Call (.Name "enumerate" p) [e] [] pos) (iEnumT X.K ta) := by
  refine ⟨fun pins s σ H R I h => ?_⟩
  refine Call_ (ld_blt I hg hm boot_enumerate (PyProof.Rows.callWith_type1 (thn (ha.run pos pins s σ H _ I h) fun us s1 ⟨vs, H1, I1, r1, q1⟩ => ?_) hs rfl))
  obtain ⟨a, xs, ex, hq, q⟩ := q1
  subst ex
  obtain ⟨u, rfl, ru⟩ := r1.one
  cases (show u = Value.ref a from ru)
  obtain ⟨its, rv, p', hz⟩ := I1.tuple hq
  have ha1 : a < s1.heap.objs.size := p'.lt
  refine enumT_call p' fun h' he hit hsz hk => wpAny_pyIter_enum he ?_
  have I2 : Inv X pins σ H1 { s1 with heap := h' } := I1.kept (t' := s1.toks) hk
  refine ⟨s1.heap.objs.size + 1, [s1.heap.objs.size + 1, s1.heap.objs.size], _, _, H1, rfl, I2, turn_enumT a (s1.heap.objs.size + 1) s1.heap.objs.size (Nat.ne_of_lt ha1) (Nat.ne_of_lt (Nat.lt_succ_of_lt ha1)), ⟨⟨.none, he⟩, hit, Nat.succ_ne_self _⟩, fun b hb => ?_, q⟩
  have hle : s1.heap.objs.size ≤ b := by
    rcases (show b = s1.heap.objs.size + 1 ∨ b = s1.heap.objs.size by simpa using hb) with z | z <;> rw [z]
    · exact Nat.le_add_right _ _
    · exact Nat.le_refl _
  exact I1.fpOk hle (I1.hok.fresh hle)
section
variable {F0 H0 : Hp} {D : Ends} {Γ : List Ty} {ta tb te : TE} {R : Rp} {Rs Ss Us : List Rp} {tz tu tw : TS} {tt : TT} {b : Bool} {i : Nat} {K : PySem.W.Frag}
/-- two slots by a pair's items -/
theorem pair_set {F H : Hp} {σ : L2.St} {j1 j2 : Nat} {T : Addr} {x y : V} {P : L2.St → Hp → Prop} (h1 : H T = some (.tup [x, y])) (q : P ((σ.set j1 (some x)).set j2 (some y)) H) : gTup K 2 (gCons (gName j1) (gCons (gName j2) gNil)) (.ref T) σ H P :=
  ⟨T, [x, y], rfl, .inl (.inl h1), rfl, x, [y], rfl, y, [], rfl, rfl, q⟩
theorem sj_forE {j1 j2 : Nat} (h : EV Γ ta (RT Rs)) (I : Nat → List Ty) (s0 : Sub Γ (I 0))
    (hs : ∀ Fb, Up F0 H0 Fb → ∀ i R, Rs[i]? = some R → SJ Fb H0 { D with nx := PV Fb H0 (I (i + 1)), ct := PV Fb H0 (I (i + 1)), bk := D.nx } (((I i).set j1 (.fz (RI (i : Int)))).set j2 (.fz R)) tu) (hd : NX F0 H0 D.nx (I Rs.length)) :
    SJ F0 H0 D Γ (tFor (iEnumT K (tCons ta tNil)) (gTup K 2 (gCons (gName j1) (gCons (gName j2) gNil))) tu) := fun σ F H e o =>
  h H0 F H σ e.s o _ fun v F1 H1 l1 r1 => by
    obtain ⟨l, vs, rfl, h1, it⟩ := r1
    have e1 := e.trans l1
    refine ⟨l, vs, rfl, .inl (.inl (l1.s _ _ h1)), ?_⟩
    refine for_it (walk_enumT (xs := vs)) (fun i => PV F1 H0 (I i)) ⟨F1, e1.self, (o.le l1).sub s0⟩ (fun i σ' H' hi p => ?_) (fun i x σ' H2 H' hi p y => ?_) fun σ' H' p => ?_
    · obtain ⟨F', e', o'⟩ := p
      exact .inl (.inl (e'.s _ _ (e'.f _ _ h1)))
    · obtain ⟨F', e', o'⟩ := p
      obtain ⟨T, _, z, rfl, nT, rfl, rfl2, hz⟩ := y
      cases (Option.some.inj rfl2)
      obtain ⟨R, hR, rv⟩ := (it.mono e'.f).getV hz
      have l2 := Le.allocF (o := .tup [.int (i : Nat), z]) e'.s nT
      refine pair_set (F := F') upd_same ?_
      exact hs F1 e1.up i R hR _ _ _ (e'.trans l2) (((o'.le l2).set (R := RI (i : Int)) rfl).set (R.m _ _ _ l2.f rv))
    · obtain ⟨F', e', o'⟩ := p
      rw [← it.len] at o'
      exact hd σ' F' H' (e'.base e1.up) o'
theorem q_forE {j1 j2 : Nat} (h : EV Γ ta (RT Rs)) (I : Nat → List Ty) (s0 : Sub Γ (I 0))
    (hs : ∀ Fb, Up F0 H0 Fb → ∀ i R, Rs[i]? = some R → SJ Fb H0 { D with nx := PV Fb H0 (I (i + 1)), ct := PV Fb H0 (I (i + 1)), bk := tz D } (((I i).set j1 (.fz (RI (i : Int)))).set j2 (.fz R)) tu) (hd : SJ F0 H0 D (I Rs.length) tz) :
    SJ F0 H0 D Γ (tSeq (tFor (iEnumT K (tCons ta tNil)) (gTup K 2 (gCons (gName j1) (gCons (gName j2) gNil))) tu) tz) := sj_forE (D := { D with nx := tz D }) h I s0 hs hd
/-- for x in reversed(a tuple) -/
theorem sj_forR {j : Nat} (h : EV Γ ta (RT Rs)) (I : Nat → List Ty) (s0 : Sub Γ (I 0))
    (hs : ∀ Fb, Up F0 H0 Fb → ∀ i R, i < Rs.length → Rs[Rs.length - 1 - i]? = some R → SJ Fb H0 { D with nx := PV Fb H0 (I (i + 1)), ct := PV Fb H0 (I (i + 1)), bk := D.nx } ((I i).set j (.fz R)) tu) (hd : NX F0 H0 D.nx (I Rs.length)) :
    SJ F0 H0 D Γ (tFor (iRevA K ta) (gName j) tu) := fun σ F H e o =>
  h H0 F H σ e.s o _ fun v F1 H1 l1 r1 => by
    obtain ⟨l, vs, rfl, h1, it⟩ := r1
    have e1 := e.trans l1
    refine ⟨l, vs, rfl, .inr ⟨.inl (.inl (l1.s _ _ h1)), ?_⟩⟩
    refine for_it (walk_revT (xs := vs)) (fun i => PV F1 H0 (I i)) ⟨F1, e1.self, (o.le l1).sub s0⟩ (fun i σ' H' hi p => ?_) (fun i x σ' H2 H' hi p y => ?_) fun σ' H' p => ?_
    · obtain ⟨F', e', o'⟩ := p
      exact .inl (.inl (e'.s _ _ (e'.f _ _ h1)))
    · obtain ⟨F', e', o'⟩ := p
      obtain ⟨rfl, hz⟩ := y
      obtain ⟨R, hR, rv⟩ := (it.mono e'.f).getV hz
      rw [← it.len] at hR hi
      exact hs F1 e1.up i R hi hR _ _ _ e' (o'.set rv)
    · obtain ⟨F', e', o'⟩ := p
      rw [← it.len] at o'
      exact hd σ' F' H' (e'.base e1.up) o'
theorem q_forR {j : Nat} (h : EV Γ ta (RT Rs)) (I : Nat → List Ty) (s0 : Sub Γ (I 0))
    (hs : ∀ Fb, Up F0 H0 Fb → ∀ i R, i < Rs.length → Rs[Rs.length - 1 - i]? = some R → SJ Fb H0 { D with nx := PV Fb H0 (I (i + 1)), ct := PV Fb H0 (I (i + 1)), bk := tz D } ((I i).set j (.fz R)) tu) (hd : SJ F0 H0 D (I Rs.length) tz) :
    SJ F0 H0 D Γ (tSeq (tFor (iRevA K ta) (gName j) tu) tz) := sj_forR (D := { D with nx := tz D }) h I s0 hs hd
/-- for j in range(hi, lo, -1) -/
theorem sj_for3 {t : TA} {j : Nat} {hi lo : Int} (h : EA Γ t [RI hi, RI lo, RI (-1)]) (hb : -1000000 ≤ hi ∧ hi ≤ 1000000 ∧ -1000000 ≤ lo ∧ lo ≤ 1000000) (I : Nat → List Ty) (s0 : Sub Γ (I 0))
    (hs : ∀ (i : Nat), i < (hi - lo).toNat → SJ F0 H0 { D with nx := PV F0 H0 (I (i + 1)), ct := PV F0 H0 (I (i + 1)), bk := D.nx } ((I i).set j (.fz (RI (hi - (i : Int))))) tu) (hd : NX F0 H0 D.nx (I (hi - lo).toNat)) : SJ F0 H0 D Γ (tFor (iRng3 t) (gName j) tu) := fun σ F H e o =>
  h H0 F H σ e.s o _ fun vs F1 H1 l1 it => by
    obtain rfl : vs = [.int hi, .int lo, .int (-1)] := Its.ks (xs := [.int hi, .int lo, .int (-1)]) it
    refine ⟨hi, lo, -1, (hi - lo).toNat, rfl, RgC.neg (by omega) (by omega) (by omega) (by omega), ?_⟩
    refine for_rangeC (fun i => PV F0 H0 (I i)) ⟨F1, e.trans l1, (o.le l1).sub s0⟩ (fun i σ' H' hi' p => ?_) fun σ' H' p => ?_
    · obtain ⟨F', e', o'⟩ := p
      show tu _ (σ'.set j (some (.int (hi + (i : Nat) * -1)))) H'
      rw [show hi + (i : Int) * -1 = hi - (i : Int) by omega]
      exact hs i hi' _ F' H' e' (o'.set (R := RI (hi - (i : Int))) rfl)
    · obtain ⟨F', e', o'⟩ := p
      exact hd σ' F' H' e' o'
theorem q_for3 {t : TA} {j : Nat} {hi lo : Int} (h : EA Γ t [RI hi, RI lo, RI (-1)]) (hb : -1000000 ≤ hi ∧ hi ≤ 1000000 ∧ -1000000 ≤ lo ∧ lo ≤ 1000000) (I : Nat → List Ty) (s0 : Sub Γ (I 0))
    (hs : ∀ (i : Nat), i < (hi - lo).toNat → SJ F0 H0 { D with nx := PV F0 H0 (I (i + 1)), ct := PV F0 H0 (I (i + 1)), bk := tz D } ((I i).set j (.fz (RI (hi - (i : Int))))) tu) (hd : SJ F0 H0 D (I (hi - lo).toNat) tz) : SJ F0 H0 D Γ (tSeq (tFor (iRng3 t) (gName j) tu) tz) :=
  sj_for3 (D := { D with nx := tz D }) h hb I s0 hs hd
/-- [e for x, y in zip(xs, ys)], lists of one length -/
theorem wipe2_set {σ : L2.St} {j1 j2 : Nat} {x y : V} (hne : j1 ≠ j2) : wipe (((wipe σ [j1, j2]).set j1 (some x)).set j2 (some y)) [j1, j2] = wipe σ [j1, j2] := by
  show (((((σ.set j2 none).set j1 none).set j1 (some x)).set j2 (some y)).set j2 none).set j1 none = (σ.set j2 none).set j1 none
  rw [List.set_set, List.set_set]
  rw [List.set_comm _ _ (Ne.symm hne), List.set_set, List.set_comm _ _ hne, List.set_set]
theorem eo_lcZ {j1 j2 : Nat} (h1 : EV Γ ta (RL Ss)) (h2 : EV Γ tb (RL Us)) (hn : Rs.length = Ss.length) (hm : Us.length = Ss.length) (hz : Rs.length ≤ 1000000) (hne : j1 ≠ j2) (hj1 : ∀ T, Γ[j1]? = some T → T.mov = false) (hj2 : ∀ T, Γ[j2]? = some T → T.mov = false)
    (he : ∀ (i : Nat) (S U R : Rp), Ss[i]? = some S → Us[i]? = some U → Rs[i]? = some R → EV ((Γ.set j1 (.fz S)).set j2 (.fz U)) te R) :
    EO Γ (tLc (iZip K (tCons ta (tCons tb tNil))) (gTup K 2 (gCons (gName j1) (gCons (gName j2) gNil))) tYes te [j1, j2]) Rs := fun H0 F H σ e k Q q =>
  h1 H0 F H σ e k _ fun v F1 H1 l1 r1 => h2 H0 F1 H1 σ l1.s (k.le l1) _ fun u F2 H2 l2 r2 => by
    obtain ⟨l, vs, rfl, g1, it⟩ := r1
    obtain ⟨m, us, rfl, g2, it2⟩ := r2
    have g1' := l2.f _ _ g1
    refine ⟨l, m, vs, us, rfl, .inl (.inl (l2.s _ _ g1')), .inl (.inl (l2.s _ _ g2)), fun Dl hD => ?_⟩
    have hmn : Rs.length = min vs.length us.length := by rw [← it.len, ← it2.len]; omega
    refine lc_it (walk_zip hmn) (Cw F2 H2 Rs Dl) (Cw.start l2.s hD) (fun i H' hi p => ?_) (fun i x H3 H' hi p y => ?_) fun H' p => Cw.done (l1.trans l2) hD p q
    · obtain ⟨F', _, l3, _⟩ := p
      exact ⟨.inl (.inl (l3.s _ _ (l3.f _ _ g1'))), .inl (.inl (l3.s _ _ (l3.f _ _ g2)))⟩
    obtain ⟨T, x1, x2, rfl, nT, rfl, hx1, hx2⟩ := y
    obtain ⟨S, hS, rv1⟩ := it.getV hx1
    obtain ⟨U, hU, rv2⟩ := it2.getV hx2
    refine pair_set (F := H3) upd_same ?_
    refine ⟨wipe2_set hne, yes_of ?_⟩
    -- the pair is new: it is frozen
    have p' : Cw F2 H2 Rs Dl i (upd H3 T (.tup [x1, x2])) := by
      obtain ⟨F', ws, l3, n3, hl3, it3⟩ := p
      have l4 := Le.allocF (o := .tup [x1, x2]) l3.s nT
      have nd : Dl ≠ T := fun z => by subst z; rw [hl3] at nT; cases nT
      exact ⟨_, ws, l3.trans l4, by rw [upd_ne nd]; exact n3, by rw [upd_ne nd]; exact hl3, it3.mono l4.f⟩
    refine cw_turn (σ2 := ((wipe σ [j1, j2]).set j1 (some x1)).set j2 (some x2)) hD p' (List.getElem?_eq_getElem hi) hz fun F' l3 Q' q' => ?_
    have o1 := ((k.le l1).le l2).le l3
    have o2 : Ok H0 ((Γ.set j2 .any).set j1 .any) (wipe σ [j1, j2]) F' _ := (o1.wipe1 hj2).wipe1 fun T hT => by
      rw [List.getElem?_set_ne (Ne.symm hne)] at hT
      exact hj1 T hT
    have o3 := (o2.set (i := j1) (S.m _ _ _ (l2.f.trans l3.f) rv1)).set (i := j2) (U.m _ _ _ l3.f rv2)
    rw [List.set_set, List.set_comm _ _ (Ne.symm hne), List.set_set] at o3
    exact he i S U _ hS hU (List.getElem?_eq_getElem hi) H0 F' _ _ l3.s o3 Q' q'
end
end G
end
section
set_option maxRecDepth 100000
set_option maxHeartbeats 4000000
/-! Facts that the head leaves, by names; a Hook of one's own. -/
namespace G
open PySem PySem.Spec PyProof.Rows L2 He
abbrev Frag := PySem.W.Frag
/-- the class at a module's name -/
abbrev cA (K : Frag) (x : Str) : Addr := ga K x
/-- an object found in the class by a name -/
abbrev mA (K : Frag) (x m : Str) : Addr := ma K (ga K x) m
def recAt (K : Frag) (p : Addr) (T : String) : Addr := match PySem.W.recIn K p T with
  | some (.ref g :: _) => g
  | _ => 0
/-- a property's getter, a static method's def -/
abbrev pA (K : Frag) (x m : Str) : Addr := recAt K (mA K x m) "property"
abbrev sA (K : Frag) (x m : Str) : Addr := recAt K (mA K x m) "staticmethod"
def recB (K : Frag) (p : Addr) (T : String) : Bool := match PySem.W.recIn K p T with
  | some (.ref _ :: _) => true
  | _ => false
theorem recB_ok {K : Frag} {p : Addr} {T : String} (h : recB K p T = true) : ∃ rest, PySem.W.recIn K p T = some (.ref (recAt K p T) :: rest) := by
  unfold recB at h
  split at h
  · rename_i g r e
    refine ⟨r, ?_⟩
    unfold recAt
    rw [e]
  · cases h
inductive Fx where
  | a (f : Fa)
  | blt (x : Str) (id : String)
  | prop (x m : Str)
  | stat (x m : Str)
  | fn (x m : Str)
  | fst (x : Str)
  | isi (x : Str)
  | has (a : Addr)
  | bm
def eqB {α : Type} [DecidableEq α] (a b : α) : Bool := decide (a = b)
theorem eqB_ok {α : Type} [DecidableEq α] {a b : α} (h : eqB a b = true) : a = b := of_decide_eq_true h
def clsB (K : Frag) (C p : Addr) (m : Str) : Bool := match PySem.W.findCls K (.ref C) (.type "type") m with
  | some (.get (.builtin g) (.ref q) .none (.ref D)) => eqB g "staticmethod.__get__" && (eqB q p && eqB D C)
  | _ => false
theorem clsB_ok {K : Frag} {C p : Addr} {m : Str} (h : clsB K C p m = true) : PySem.W.findCls K (.ref C) (.type "type") m = some (.get (.builtin "staticmethod.__get__") (.ref p) .none (.ref C)) := by
  unfold clsB at h
  split at h
  · rename_i g q D e
    obtain ⟨h1, h2⟩ := ba h
    obtain ⟨h2, h3⟩ := ba h2
    rw [e, eqB_ok h1, eqB_ok h2, eqB_ok h3]
  · cases h
def Fx.ok (K : Frag) : Fx → Bool
  | .a f => f.ok K
  | .blt x id => (match PySem.W.nsIn K mainGlobals x with
    | some (some (.builtin j)) => eqB j id
    | _ => false)
  | .prop x m => eqO (PySem.W.findIn K (.ref (cA K x)) m) (some (some (.ref (mA K x m)))) && (eqO (PySem.W.specialIn K (.ref (mA K x m)) "__get__") (some (some (.builtin "property.__get__"))) &&
      (eqB (PySem.W.takesIn K (.ref (mA K x m))) (some true) && recB K (mA K x m) "property"))
  | .stat x m => eqO (PySem.W.specialIn K (.ref (cA K x)) "__getattribute__") (some (some (.builtin "type.__getattribute__"))) && (eqB (PySem.W.typeIn K (.ref (cA K x))) (some (.type "type")) &&
      (PySem.W.readsIn K (cA K x) (.type "type") && (clsB K (cA K x) (mA K x m) m && recB K (mA K x m) "staticmethod")))
  | .fn x m => eqO (PySem.W.findIn K (.ref (cA K x)) m) (some (some (.ref (mA K x m)))) && PySem.W.isFn K (.ref (mA K x m))
  | .fst x => PySem.W.selfFirst K (cA K x)
  | .isi x => eqO (PySem.W.findIn K (.ref (cA K x)) "__class__") (some (some (.builtin "object.__class__"))) && (eqO (PySem.W.specialIn K (.builtin "object.__class__") "__get__") (some (some (.builtin "getset_descriptor.__get__"))) &&
      (eqB (PySem.W.takesIn K (.builtin "object.__class__")) (some true) && eqB (PySem.W.mroIn K (cA K x) (.type "object")) (some true)))
  | .has b => (K.lookup b).isSome
  | .bm => (match PySem.W.nsIn K mainGlobals "__builtins__" with
    | some (some (.ref b)) => (K.lookup b).isSome
    | _ => false)
structure Fn2 (K : Frag) (C f : Addr) (m : Str) : Prop where
  at_ : PySem.W.findIn K (.ref C) m = some (some (.ref f))
  fn : PySem.W.isFn K (.ref f) = true
structure Isi (K : Frag) (C : Addr) : Prop where
  ca : PySem.W.findIn K (.ref C) "__class__" = some (some (.builtin "object.__class__"))
  cn : PySem.W.specialIn K (.builtin "object.__class__") "__get__" = some (some (.builtin "getset_descriptor.__get__"))
  ct : PySem.W.takesIn K (.builtin "object.__class__") = some true
  cm : PySem.W.mroIn K C (.type "object") = some true
section
variable {K : Frag} {h : Heap} {mg : Str → Option Value}
theorem blt_ok (X : K.In h) (N : h.Ns mainGlobals mg) {x : Str} {id : String} (c : (Fx.blt x id).ok K = true) : mg x = some (.builtin id) := by
  have c2 : (match PySem.W.nsIn K mainGlobals x with
    | some (some (.builtin j)) => eqB j id
    | _ => false) = true := c
  split at c2
  · rename_i j e
    rw [← eqB_ok c2]
    exact PySem.W.mg_of X N e
  · cases c2
theorem prop_ok {x m : Str} (c : (Fx.prop x m).ok K = true) : PropOf K (cA K x) m (mA K x m) (pA K x m) := by
  obtain ⟨c1, c⟩ := ba c
  obtain ⟨c2, c⟩ := ba c
  obtain ⟨c3, c4⟩ := ba c
  exact ⟨eqO_ok c1, eqO_ok c2, eqB_ok c3, recB_ok c4⟩
theorem stat_ok {x m : Str} (c : (Fx.stat x m).ok K = true) : Stat K (cA K x) m (sA K x m) := by
  obtain ⟨c1, c⟩ := ba c
  obtain ⟨c2, c⟩ := ba c
  obtain ⟨c3, c⟩ := ba c
  obtain ⟨c4, c5⟩ := ba c
  exact ⟨eqO_ok c1, eqB_ok c2, c3, _, clsB_ok c4, recB_ok c5⟩
theorem fn_ok {x m : Str} (c : (Fx.fn x m).ok K = true) : Fn2 K (cA K x) (mA K x m) m := by
  obtain ⟨c1, c2⟩ := ba c
  exact ⟨eqO_ok c1, c2⟩
theorem isi_ok {x : Str} (c : (Fx.isi x).ok K = true) : Isi K (cA K x) := by
  obtain ⟨c1, c⟩ := ba c
  obtain ⟨c2, c⟩ := ba c
  obtain ⟨c3, c4⟩ := ba c
  exact ⟨eqO_ok c1, eqO_ok c2, eqB_ok c3, eqB_ok c4⟩
end
theorem bm_ok {K : Frag} {h : Heap} {mg : Str → Option Value} (X : K.In h) (N : h.Ns mainGlobals mg) (c : (Fx.bm).ok K = true) : ∃ b, mg "__builtins__" = some (.ref b) ∧ (K.lookup b).isSome = true := by
  have c2 : (match PySem.W.nsIn K mainGlobals "__builtins__" with
    | some (some (.ref b)) => (K.lookup b).isSome
    | _ => false) = true := c
  split at c2
  · rename_i b e
    exact ⟨b, PySem.W.mg_of X N e, c2⟩
  · cases c2
/-- an object of the kept part is the same in both heaps -/
theorem same_obj {K : Frag} {h g : Heap} (X : K.In h) (Y : K.In g) {a : Addr} {o : Obj} (c : (K.lookup a).isSome = true) (e : h.get? a = some o) : g.get? a = some o := by
  obtain ⟨u, hu⟩ := Option.isSome_iff_exists.mp c
  have e1 := X a u hu
  rw [e] at e1
  cases e1
  exact Y a o hu
theorem ns_same {K : Frag} {h g : Heap} (X : K.In h) (Y : K.In g) {a : Addr} {m : Str → Option Value} (c : (K.lookup a).isSome = true) (n : h.Ns a m) : g.Ns a m := by
  obtain ⟨o, es, ep, e, r⟩ := n
  exact ⟨o, es, ep, same_obj X Y c e, r⟩
theorem seer_base {K : Frag} {h g : Heap} {mg : Str → Option Value} (X : K.In h) (Y : K.In g) (N : h.Ns mainGlobals mg) (c1 : (Fx.has cStatics).ok K = true) (c2 : (Fx.has sysModules).ok K = true) (c3 : (Fx.has builtinsNs).ok K = true) (c4 : (Fx.has mainGlobals).ok K = true) (c5 : (Fx.bm).ok K = true) (n : h.NoSeer) : g.NoSeer := by
  obtain ⟨⟨m1, a1, a2, a3⟩, ⟨m2, b1, b2⟩, ⟨m3, d1, d2⟩, ⟨m4, bm, ob, e1, e2, e3, e4, e5⟩⟩ := n
  obtain ⟨b, f1, f2⟩ := bm_ok X e1 c5
  rw [e2] at f1
  cases f1
  exact ⟨⟨m1, ns_same X Y c1 a1, a2, a3⟩, ⟨m2, ns_same X Y c2 b1, b2⟩, ⟨m3, ns_same X Y c3 d1, d2⟩, ⟨m4, bm, ob, ns_same X Y c4 e1, e2, same_obj X Y f2 e3, e4, e5⟩⟩
/-! ### defs -/
structure DefX where
  adr : Frag → Addr
  name : Str
  qual : Str
  st : Stmt
  dfl : List V
def DefX.val (d : DefX) : FnW := some (d.name, d.qual, defArgs d.st, .stmts (defBody d.st), defScope d.st, mainGlobals, [], builtinsNs)
def fnX (K : Frag) (a : Addr) : FnW := match K.lookup a with
  | some ⟨_, _, .func fd, _⟩ => some (fd.name, fd.qualname, fd.params, fd.body, fd.scope, fd.globals, fd.closure, fd.builtins)
  | _ => none
def DefX.ok (K : Frag) (d : DefX) : Bool := PySem.W.keepIn K (.ref (d.adr K)) && (match K.lookup (d.adr K) with
  | some ⟨_, _, .func fd, _⟩ => PySem.W.codeIn K fd.code d.qual && dflB K fd.defaults d.dfl
  | _ => false)
theorem DefX.funD {K : Frag} {d : DefX} (e : fnX K (d.adr K) = d.val) (c : d.ok K = true) : ∃ fd, DefF K d.name d.qual d.st d.dfl [] (d.adr K) fd := by
  obtain ⟨kp, c2⟩ := ba c
  unfold fnX at e
  split at c2
  · rename_i oc od fd osl lk
    rw [lk] at e
    obtain ⟨n1, n2, n3, n4, n5, n6, n7, n8, n9, n10, n11, n12, n13, n14, n15⟩ := fd
    have e2 : (some (n1, n2, n3, n4, n5, n6, n7, n15) : FnW) = some (d.name, d.qual, defArgs d.st, .stmts (defBody d.st), defScope d.st, mainGlobals, [], builtinsNs) := e
    simp only [Option.some.injEq, Prod.mk.injEq] at e2
    obtain ⟨h1, h2, h3, h4, h5, h6, h7, h8⟩ := e2
    subst h1 h2 h3 h4 h5 h6 h7 h8
    obtain ⟨k1, k2⟩ := ba c2
    exact ⟨_, ⟨oc, od, n8, n9, n10, n11, n12, n13, n14, osl, rfl, lk, k1, dflB_ok k2, .inl rfl⟩, kp⟩
  · cases c2
/-! ### the Hook -/
def obsX (fa : List Fx) (fn : List DefX) (K : Frag) : AlD := ((fa.all fun f => f.ok K) && fn.all fun d => d.ok K, fn.map fun d => fnX K (d.adr K))
def valX (fn : List DefX) : AlD := (true, fn.map DefX.val)
def SaysX (fa : List Fx) (fn : List DefX) (K : Frag) : Prop := obsX fa fn K = valX fn
/-- what an object of the module names: a def's code and defaults, a class's own names, a record's, a dict's values -/
def refsE (o : Obj) : List Addr := match o.data with
  | .func fd => refV fd.code ++ refV fd.defaults
  | .cls cd => [cd.ns]
  | .fields vs => vs.toList.flatMap refV
  | .dict es _ => es.toList.flatMap fun e => refV e.val
  | _ => []
def nxt (g : Addr → Option Obj) (as : List Addr) : List Addr := as.flatMap fun a => match g a with
  | some o => refsE o
  | none => []
def asX (g : Addr → Option Obj) : List Addr :=
  let a1 := nxt g [mainGlobals]
  let a2 := nxt g a1
  let a3 := nxt g a2
  let a4 := nxt g a3
  let a5 := nxt g a4
  cStatics :: sysModules :: builtinsNs :: mainGlobals :: (a1 ++ (a2 ++ (a3 ++ (a4 ++ a5))))
def obsXG (fa : List Fx) (fn : List DefX) (g : Addr → Option Obj) : AlD := obsX fa fn (frG g (asX g))
def hookX (fa : List Fx) (fn : List DefX) : PySem.W.Hook where
  α := AlD
  obs := fun s => obsXG fa fn s.heap.get?
  val := fun _ => valX fn
  says := fun _ h => ∃ K : Frag, K.In h ∧ SaysX fa fn K
  of := fun _ _ e => ⟨_, frG_in, e⟩
  keeps := fun _ _ _ ⟨K, hK, c⟩ k => ⟨K, PySem.W.Frag.In.keeps hK k, c⟩
theorem obsXG_eq {fa : List Fx} {fn : List DefX} {g : Addr → Option Obj} {s : Shared} (h : ∀ a, g a = s.heap.get? a) : obsXG fa fn g = (hookX fa fn).obs s := by
  have e : g = s.heap.get? := funext h
  rw [e] <;> rfl
section
variable {fa : List Fx} {fn : List DefX} {K : Frag}
theorem SaysX.fact (c : SaysX fa fn K) (i : Nat) {f : Fx} (h : fa[i]? = some f := by rfl) : f.ok K = true := by
  have c1 := (ba (show ((fa.all fun f => f.ok K) && fn.all fun d => d.ok K) = true from congrArg (fun z : AlD => z.1) c)).1
  exact List.all_eq_true.mp c1 f (List.mem_of_getElem? h)
theorem SaysX.def_ (c : SaysX fa fn K) (i : Nat) {d : DefX} (h : fn[i]? = some d := by rfl) : ∃ fd, DefF K d.name d.qual d.st d.dfl [] (d.adr K) fd := by
  have c2 := (ba (show ((fa.all fun f => f.ok K) && fn.all fun d => d.ok K) = true from congrArg (fun z : AlD => z.1) c)).2
  have e : (fn.map fun d => fnX K (d.adr K)) = fn.map DefX.val := congrArg (fun z : AlD => z.2) c
  have e2 : (fn.map fun d => fnX K (d.adr K))[i]? = (fn.map DefX.val)[i]? := by rw [e]
  rw [List.getElem?_map, List.getElem?_map, h] at e2
  exact DefX.funD (Option.some.inj e2) (List.all_eq_true.mp c2 d (List.mem_of_getElem? h))
end
end G
end
section
set_option maxRecDepth 100000
set_option maxHeartbeats 0
/-! The facts of this program (printed by gen/facts.py). -/
namespace G
open PySem PySem.Spec PyProof.Rows L2 He
abbrev s_Fi : Stmt := inClass (top 8) 0
abbrev s_Fz : Stmt := inClass (top 8) 1
abbrev s_Feq : Stmt := inClass (top 8) 3
abbrev s_Fadd : Stmt := inClass (top 8) 4
abbrev s_Fsub : Stmt := inClass (top 8) 5
abbrev s_Fmul : Stmt := inClass (top 8) 6
abbrev s_Fneg : Stmt := inClass (top 8) 7
abbrev s_Fover : Stmt := inClass (top 8) 8
abbrev s_Fpow : Stmt := inClass (top 8) 9
abbrev s_trimmed : Stmt := top 11
abbrev s_content : Stmt := top 12
abbrev s_Pi : Stmt := inClass (top 13) 0
abbrev s_Pconst : Stmt := inClass (top 13) 1
abbrev s_Pdeg : Stmt := inClass (top 13) 3
abbrev s_Pz : Stmt := inClass (top 13) 4
abbrev s_Plead : Stmt := inClass (top 13) 5
abbrev s_Peq : Stmt := inClass (top 13) 7
abbrev s_Padd : Stmt := inClass (top 13) 8
abbrev s_Psub : Stmt := inClass (top 13) 9
abbrev s_Pneg : Stmt := inClass (top 13) 10
abbrev s_Pmul : Stmt := inClass (top 13) 11
abbrev s_Pat : Stmt := inClass (top 13) 12
abbrev s_Pscaled : Stmt := inClass (top 13) 14
abbrev s_Pshifted : Stmt := inClass (top 13) 15
abbrev s_Oi : Stmt := inClass (top 16) 0
abbrev s_Oord : Stmt := inClass (top 16) 2
abbrev s_Oz : Stmt := inClass (top 16) 3
abbrev s_Opart : Stmt := inClass (top 16) 5
abbrev s_Qi : Stmt := inClass (top 18) 0
abbrev s_Qinn : Stmt := inClass (top 18) 1
abbrev s_Qline : Stmt := inClass (top 18) 3
abbrev s_Qdk : Stmt := inClass (top 18) 5
abbrev s_Qz : Stmt := inClass (top 18) 7
abbrev s_Qrow : Stmt := inClass (top 18) 8
abbrev s_Qeq : Stmt := inClass (top 18) 9
abbrev s_Qadd : Stmt := inClass (top 18) 10
abbrev s_Qsub : Stmt := inClass (top 18) 11
abbrev s_Qneg : Stmt := inClass (top 18) 12
abbrev s_Qmul : Stmt := inClass (top 18) 13
abbrev s_Qmoved : Stmt := inClass (top 18) 17
abbrev s_Qpow : Stmt := inClass (top 18) 18
abbrev s_prod2 : Stmt := top 19
abbrev s_divide : Stmt := top 21
abbrev s_exact : Stmt := top 22
abbrev s_monic : Stmt := top 23
abbrev s_primitive : Stmt := top 24
abbrev s_cdiv : Stmt := top 25
abbrev s_cdivof : Stmt := top 26
abbrev s_combine : Stmt := top 28
abbrev s_multiply : Stmt := top 29
abbrev s_identity : Stmt := top 30
abbrev s_ppS : Stmt := top 32
abbrev s_without : Stmt := top 34
abbrev s_clearedS : Stmt := top 35
abbrev s_reduced : Stmt := top 37
abbrev s_ffree : Stmt := top 38
abbrev s_kernel : Stmt := top 39
abbrev s_wrow : Stmt := top 41
abbrev s_prow : Stmt := top 42
abbrev s_ppP : Stmt := top 43
abbrev s_elim : Stmt := top 45
abbrev s_clearedP : Stmt := top 46
abbrev s_kvec : Stmt := top 48
abbrev s_rowsat : Stmt := top 49
abbrev s_invat : Stmt := top 50
abbrev s_pkernel : Stmt := top 51
abbrev s_column : Stmt := top 53
abbrev s_forward : Stmt := top 54
abbrev s_backward : Stmt := top 55
abbrev s_cdeg : Stmt := top 56
abbrev s_equations : Stmt := top 57
abbrev s_recur : Stmt := top 59
abbrev s_lrec : Stmt := top 60
abbrev s_istel : Stmt := top 62
abbrev s_isleft : Stmt := top 63
abbrev s_accepts : Stmt := top 64
abbrev s_Bi : Stmt := inClass (top 68) 0
abbrev s_Bfac : Stmt := inClass (top 68) 1
abbrev s_Lnum : Stmt := top 70
abbrev s_Lpow : Stmt := top 72
abbrev s_Lparts : Stmt := top 73
abbrev s_Lmade : Stmt := top 74
abbrev s_law : Stmt := top 78
def fa0 : List Fx := [.a (.glo "trimmed"), .a (.glo "content"), .a (.glo "product_of2"), .a (.glo "divide"), .a (.glo "exact"), .a (.glo "monic"), .a (.glo "primitive"), .a (.glo "common_divisor"), .a (.glo "common_divisor_of"), .a (.glo "combine"), .a (.glo "multiply"), .a (.glo "identity"), .a (.glo "pivot_place_systems"), .a (.glo "without_multiple"), .a (.glo "cleared_systems"), .a (.glo "reduced"), .a (.glo "first_free"), .a (.glo "kernel"), .a (.glo "whole_row"), .a (.glo "primitive_row"), .a (.glo "pivot_place_polysystems"), .a (.glo "eliminated"), .a (.glo "cleared_polysystems"), .a (.glo "kernel_vector"), .a (.glo "rows_at"), .a (.glo "inverse_at_point"), .a (.glo "poly_kernel"), .a (.glo "column"), .a (.glo "forward"), .a (.glo "backward")]
def fa1 : List Fx := [.a (.glo "certificate_degree"), .a (.glo "equations"), .a (.glo "recurrence"), .a (.glo "least_recurrence"), .a (.glo "is_telescoper"), .a (.glo "is_left_inverse"), .a (.glo "accepts_recurrence"), .a (.glo "_law_numbers"), .a (.glo "_law_power"), .a (.glo "_law_parts"), .a (.glo "_law_made"), .a (.glo "law"), .a (.glo "Fraction"), .a (.glo "Poly"), .a (.glo "Operator"), .a (.glo "Poly2"), .a (.glo "BinomialSum"), .a (.free "len"), .a (.free "list"), .a (.free "tuple"), .a (.free "range"), .a (.free "zip"), .a (.free "enumerate"), .a (.free "max"), .a (.free "min"), .a (.free "abs"), .a (.free "int"), .a (.free "isinstance"), .a (.free "reversed"), .blt "gcd" "math.gcd"]
def fa2 : List Fx := [.blt "lcm" "math.lcm", .a (.cls "Fraction"), .a (.mkr "Fraction"), .a (.noat "Fraction" "num"), .a (.noat "Fraction" "den"), .a (.cls "Poly"), .a (.mkr "Poly"), .a (.noat "Poly" "coefs"), .a (.noat "Poly" "den"), .a (.cls "Operator"), .a (.mkr "Operator"), .a (.noat "Operator" "coefs"), .a (.cls "Poly2"), .a (.mkr "Poly2"), .a (.noat "Poly2" "rows"), .a (.cls "BinomialSum"), .a (.mkr "BinomialSum"), .a (.noat "BinomialSum" "weight"), .a (.noat "BinomialSum" "base"), .a (.noat "BinomialSum" "choose"), .a (.noat "BinomialSum" "rise"), .a (.noat "BinomialSum" "central"), .prop "Fraction" "is_zero", .fn "Fraction" "__eq__", .fn "Fraction" "__add__", .fn "Fraction" "__sub__", .fn "Fraction" "__mul__", .fn "Fraction" "__neg__", .a (.meth "Fraction" "over"), .a (.meth "Fraction" "power")]
def fa3 : List Fx := [.stat "Poly" "constant", .prop "Poly" "degree", .prop "Poly" "is_zero", .prop "Poly" "lead", .fn "Poly" "__eq__", .fn "Poly" "__add__", .fn "Poly" "__sub__", .fn "Poly" "__neg__", .fn "Poly" "__mul__", .a (.meth "Poly" "at"), .a (.meth "Poly" "scaled"), .a (.meth "Poly" "shifted"), .prop "Operator" "order", .prop "Operator" "is_zero", .a (.meth "Operator" "part"), .stat "Poly2" "in_n", .stat "Poly2" "line", .prop "Poly2" "degree_k", .prop "Poly2" "is_zero", .a (.meth "Poly2" "row"), .fn "Poly2" "__eq__", .fn "Poly2" "__add__", .fn "Poly2" "__sub__", .fn "Poly2" "__neg__", .fn "Poly2" "__mul__", .a (.meth "Poly2" "moved"), .a (.meth "Poly2" "power"), .prop "BinomialSum" "factors", .fst "Fraction", .isi "Fraction"]
def fa4 : List Fx := [.fst "Poly", .isi "Poly", .fst "Poly2", .isi "Poly2", .has cStatics, .has sysModules, .has builtinsNs, .has mainGlobals, .bm]
def fa : List Fx := fa0 ++ fa1 ++ fa2 ++ fa3 ++ fa4
def fn0 : List DefX := [⟨fun K => mA K "Fraction" "__init__", "__init__", "Fraction.__init__", s_Fi, [.int 1]⟩, ⟨fun K => pA K "Fraction" "is_zero", "is_zero", "Fraction.is_zero", s_Fz, []⟩, ⟨fun K => mA K "Fraction" "__eq__", "__eq__", "Fraction.__eq__", s_Feq, []⟩, ⟨fun K => mA K "Fraction" "__add__", "__add__", "Fraction.__add__", s_Fadd, []⟩, ⟨fun K => mA K "Fraction" "__sub__", "__sub__", "Fraction.__sub__", s_Fsub, []⟩, ⟨fun K => mA K "Fraction" "__mul__", "__mul__", "Fraction.__mul__", s_Fmul, []⟩, ⟨fun K => mA K "Fraction" "__neg__", "__neg__", "Fraction.__neg__", s_Fneg, []⟩, ⟨fun K => mA K "Fraction" "over", "over", "Fraction.over", s_Fover, []⟩, ⟨fun K => mA K "Fraction" "power", "power", "Fraction.power", s_Fpow, []⟩, ⟨fun K => ga K "trimmed", "trimmed", "trimmed", s_trimmed, []⟩, ⟨fun K => ga K "content", "content", "content", s_content, []⟩, ⟨fun K => mA K "Poly" "__init__", "__init__", "Poly.__init__", s_Pi, [.int 1]⟩, ⟨fun K => sA K "Poly" "constant", "constant", "Poly.constant", s_Pconst, []⟩, ⟨fun K => pA K "Poly" "degree", "degree", "Poly.degree", s_Pdeg, []⟩, ⟨fun K => pA K "Poly" "is_zero", "is_zero", "Poly.is_zero", s_Pz, []⟩, ⟨fun K => pA K "Poly" "lead", "lead", "Poly.lead", s_Plead, []⟩, ⟨fun K => mA K "Poly" "__eq__", "__eq__", "Poly.__eq__", s_Peq, []⟩, ⟨fun K => mA K "Poly" "__add__", "__add__", "Poly.__add__", s_Padd, []⟩, ⟨fun K => mA K "Poly" "__sub__", "__sub__", "Poly.__sub__", s_Psub, []⟩, ⟨fun K => mA K "Poly" "__neg__", "__neg__", "Poly.__neg__", s_Pneg, []⟩, ⟨fun K => mA K "Poly" "__mul__", "__mul__", "Poly.__mul__", s_Pmul, []⟩, ⟨fun K => mA K "Poly" "at", "at", "Poly.at", s_Pat, []⟩, ⟨fun K => mA K "Poly" "scaled", "scaled", "Poly.scaled", s_Pscaled, []⟩, ⟨fun K => mA K "Poly" "shifted", "shifted", "Poly.shifted", s_Pshifted, []⟩, ⟨fun K => mA K "Operator" "__init__", "__init__", "Operator.__init__", s_Oi, []⟩, ⟨fun K => pA K "Operator" "order", "order", "Operator.order", s_Oord, []⟩, ⟨fun K => pA K "Operator" "is_zero", "is_zero", "Operator.is_zero", s_Oz, []⟩, ⟨fun K => mA K "Operator" "part", "part", "Operator.part", s_Opart, []⟩, ⟨fun K => mA K "Poly2" "__init__", "__init__", "Poly2.__init__", s_Qi, []⟩, ⟨fun K => sA K "Poly2" "in_n", "in_n", "Poly2.in_n", s_Qinn, []⟩]
def fn1 : List DefX := [⟨fun K => sA K "Poly2" "line", "line", "Poly2.line", s_Qline, []⟩, ⟨fun K => pA K "Poly2" "degree_k", "degree_k", "Poly2.degree_k", s_Qdk, []⟩, ⟨fun K => pA K "Poly2" "is_zero", "is_zero", "Poly2.is_zero", s_Qz, []⟩, ⟨fun K => mA K "Poly2" "row", "row", "Poly2.row", s_Qrow, []⟩, ⟨fun K => mA K "Poly2" "__eq__", "__eq__", "Poly2.__eq__", s_Qeq, []⟩, ⟨fun K => mA K "Poly2" "__add__", "__add__", "Poly2.__add__", s_Qadd, []⟩, ⟨fun K => mA K "Poly2" "__sub__", "__sub__", "Poly2.__sub__", s_Qsub, []⟩, ⟨fun K => mA K "Poly2" "__neg__", "__neg__", "Poly2.__neg__", s_Qneg, []⟩, ⟨fun K => mA K "Poly2" "__mul__", "__mul__", "Poly2.__mul__", s_Qmul, []⟩, ⟨fun K => mA K "Poly2" "moved", "moved", "Poly2.moved", s_Qmoved, []⟩, ⟨fun K => mA K "Poly2" "power", "power", "Poly2.power", s_Qpow, []⟩, ⟨fun K => ga K "product_of2", "product_of2", "product_of2", s_prod2, []⟩, ⟨fun K => ga K "divide", "divide", "divide", s_divide, []⟩, ⟨fun K => ga K "exact", "exact", "exact", s_exact, []⟩, ⟨fun K => ga K "monic", "monic", "monic", s_monic, []⟩, ⟨fun K => ga K "primitive", "primitive", "primitive", s_primitive, []⟩, ⟨fun K => ga K "common_divisor", "common_divisor", "common_divisor", s_cdiv, []⟩, ⟨fun K => ga K "common_divisor_of", "common_divisor_of", "common_divisor_of", s_cdivof, []⟩, ⟨fun K => ga K "combine", "combine", "combine", s_combine, []⟩, ⟨fun K => ga K "multiply", "multiply", "multiply", s_multiply, []⟩, ⟨fun K => ga K "identity", "identity", "identity", s_identity, []⟩, ⟨fun K => ga K "pivot_place_systems", "pivot_place", "pivot_place", s_ppS, []⟩, ⟨fun K => ga K "without_multiple", "without_multiple", "without_multiple", s_without, []⟩, ⟨fun K => ga K "cleared_systems", "cleared", "cleared", s_clearedS, []⟩, ⟨fun K => ga K "reduced", "reduced", "reduced", s_reduced, []⟩, ⟨fun K => ga K "first_free", "first_free", "first_free", s_ffree, []⟩, ⟨fun K => ga K "kernel", "kernel", "kernel", s_kernel, []⟩, ⟨fun K => ga K "whole_row", "whole_row", "whole_row", s_wrow, []⟩, ⟨fun K => ga K "primitive_row", "primitive_row", "primitive_row", s_prow, []⟩, ⟨fun K => ga K "pivot_place_polysystems", "pivot_place", "pivot_place", s_ppP, []⟩]
def fn2 : List DefX := [⟨fun K => ga K "eliminated", "eliminated", "eliminated", s_elim, []⟩, ⟨fun K => ga K "cleared_polysystems", "cleared", "cleared", s_clearedP, []⟩, ⟨fun K => ga K "kernel_vector", "kernel_vector", "kernel_vector", s_kvec, []⟩, ⟨fun K => ga K "rows_at", "rows_at", "rows_at", s_rowsat, []⟩, ⟨fun K => ga K "inverse_at_point", "inverse_at_point", "inverse_at_point", s_invat, []⟩, ⟨fun K => ga K "poly_kernel", "poly_kernel", "poly_kernel", s_pkernel, []⟩, ⟨fun K => ga K "column", "column", "column", s_column, []⟩, ⟨fun K => ga K "forward", "forward", "forward", s_forward, []⟩, ⟨fun K => ga K "backward", "backward", "backward", s_backward, []⟩, ⟨fun K => ga K "certificate_degree", "certificate_degree", "certificate_degree", s_cdeg, []⟩, ⟨fun K => ga K "equations", "equations", "equations", s_equations, []⟩, ⟨fun K => ga K "recurrence", "recurrence", "recurrence", s_recur, []⟩, ⟨fun K => ga K "least_recurrence", "least_recurrence", "least_recurrence", s_lrec, []⟩, ⟨fun K => ga K "is_telescoper", "is_telescoper", "is_telescoper", s_istel, []⟩, ⟨fun K => ga K "is_left_inverse", "is_left_inverse", "is_left_inverse", s_isleft, []⟩, ⟨fun K => ga K "accepts_recurrence", "accepts_recurrence", "accepts_recurrence", s_accepts, []⟩, ⟨fun K => mA K "BinomialSum" "__init__", "__init__", "BinomialSum.__init__", s_Bi, []⟩, ⟨fun K => pA K "BinomialSum" "factors", "factors", "BinomialSum.factors", s_Bfac, []⟩, ⟨fun K => ga K "_law_numbers", "_law_numbers", "_law_numbers", s_Lnum, []⟩, ⟨fun K => ga K "_law_power", "_law_power", "_law_power", s_Lpow, []⟩, ⟨fun K => ga K "_law_parts", "_law_parts", "_law_parts", s_Lparts, []⟩, ⟨fun K => ga K "_law_made", "_law_made", "_law_made", s_Lmade, []⟩, ⟨fun K => ga K "law", "law", "law", s_law, []⟩]
def fn : List DefX := fn0 ++ fn1 ++ fn2
structure Tx (K : Frag) (mg : Str → Option Value) : Prop where
  g_trimmed : mg "trimmed" = some (.ref (ga K "trimmed"))
  g_content : mg "content" = some (.ref (ga K "content"))
  g_prod2 : mg "product_of2" = some (.ref (ga K "product_of2"))
  g_divide : mg "divide" = some (.ref (ga K "divide"))
  g_exact : mg "exact" = some (.ref (ga K "exact"))
  g_monic : mg "monic" = some (.ref (ga K "monic"))
  g_primitive : mg "primitive" = some (.ref (ga K "primitive"))
  g_cdiv : mg "common_divisor" = some (.ref (ga K "common_divisor"))
  g_cdivof : mg "common_divisor_of" = some (.ref (ga K "common_divisor_of"))
  g_combine : mg "combine" = some (.ref (ga K "combine"))
  g_multiply : mg "multiply" = some (.ref (ga K "multiply"))
  g_identity : mg "identity" = some (.ref (ga K "identity"))
  g_ppS : mg "pivot_place_systems" = some (.ref (ga K "pivot_place_systems"))
  g_without : mg "without_multiple" = some (.ref (ga K "without_multiple"))
  g_clearedS : mg "cleared_systems" = some (.ref (ga K "cleared_systems"))
  g_reduced : mg "reduced" = some (.ref (ga K "reduced"))
  g_ffree : mg "first_free" = some (.ref (ga K "first_free"))
  g_kernel : mg "kernel" = some (.ref (ga K "kernel"))
  g_wrow : mg "whole_row" = some (.ref (ga K "whole_row"))
  g_prow : mg "primitive_row" = some (.ref (ga K "primitive_row"))
  g_ppP : mg "pivot_place_polysystems" = some (.ref (ga K "pivot_place_polysystems"))
  g_elim : mg "eliminated" = some (.ref (ga K "eliminated"))
  g_clearedP : mg "cleared_polysystems" = some (.ref (ga K "cleared_polysystems"))
  g_kvec : mg "kernel_vector" = some (.ref (ga K "kernel_vector"))
  g_rowsat : mg "rows_at" = some (.ref (ga K "rows_at"))
  g_invat : mg "inverse_at_point" = some (.ref (ga K "inverse_at_point"))
  g_pkernel : mg "poly_kernel" = some (.ref (ga K "poly_kernel"))
  g_column : mg "column" = some (.ref (ga K "column"))
  g_forward : mg "forward" = some (.ref (ga K "forward"))
  g_backward : mg "backward" = some (.ref (ga K "backward"))
  g_cdeg : mg "certificate_degree" = some (.ref (ga K "certificate_degree"))
  g_equations : mg "equations" = some (.ref (ga K "equations"))
  g_recur : mg "recurrence" = some (.ref (ga K "recurrence"))
  g_lrec : mg "least_recurrence" = some (.ref (ga K "least_recurrence"))
  g_istel : mg "is_telescoper" = some (.ref (ga K "is_telescoper"))
  g_isleft : mg "is_left_inverse" = some (.ref (ga K "is_left_inverse"))
  g_accepts : mg "accepts_recurrence" = some (.ref (ga K "accepts_recurrence"))
  g_Lnum : mg "_law_numbers" = some (.ref (ga K "_law_numbers"))
  g_Lpow : mg "_law_power" = some (.ref (ga K "_law_power"))
  g_Lparts : mg "_law_parts" = some (.ref (ga K "_law_parts"))
  g_Lmade : mg "_law_made" = some (.ref (ga K "_law_made"))
  g_law : mg "law" = some (.ref (ga K "law"))
  g_F : mg "Fraction" = some (.ref (cA K "Fraction"))
  g_P : mg "Poly" = some (.ref (cA K "Poly"))
  g_O : mg "Operator" = some (.ref (cA K "Operator"))
  g_Q : mg "Poly2" = some (.ref (cA K "Poly2"))
  g_B : mg "BinomialSum" = some (.ref (cA K "BinomialSum"))
  n_len : mg "len" = none
  n_list : mg "list" = none
  n_tuple : mg "tuple" = none
  n_range : mg "range" = none
  n_zip : mg "zip" = none
  n_enumerate : mg "enumerate" = none
  n_max : mg "max" = none
  n_min : mg "min" = none
  n_abs : mg "abs" = none
  n_int : mg "int" = none
  n_isinstance : mg "isinstance" = none
  n_reversed : mg "reversed" = none
  b_gcd : mg "gcd" = some (.builtin "math.gcd")
  b_lcm : mg "lcm" = some (.builtin "math.lcm")
  c_F : Cls K (cA K "Fraction")
  mk_F : Mk K (cA K "Fraction") (mA K "Fraction" "__init__")
  na_F_num : NoAttr K (cA K "Fraction") "num"
  na_F_den : NoAttr K (cA K "Fraction") "den"
  c_P : Cls K (cA K "Poly")
  mk_P : Mk K (cA K "Poly") (mA K "Poly" "__init__")
  na_P_coefs : NoAttr K (cA K "Poly") "coefs"
  na_P_den : NoAttr K (cA K "Poly") "den"
  c_O : Cls K (cA K "Operator")
  mk_O : Mk K (cA K "Operator") (mA K "Operator" "__init__")
  na_O_coefs : NoAttr K (cA K "Operator") "coefs"
  c_Q : Cls K (cA K "Poly2")
  mk_Q : Mk K (cA K "Poly2") (mA K "Poly2" "__init__")
  na_Q_rows : NoAttr K (cA K "Poly2") "rows"
  c_B : Cls K (cA K "BinomialSum")
  mk_B : Mk K (cA K "BinomialSum") (mA K "BinomialSum" "__init__")
  na_B_weight : NoAttr K (cA K "BinomialSum") "weight"
  na_B_base : NoAttr K (cA K "BinomialSum") "base"
  na_B_choose : NoAttr K (cA K "BinomialSum") "choose"
  na_B_rise : NoAttr K (cA K "BinomialSum") "rise"
  na_B_central : NoAttr K (cA K "BinomialSum") "central"
  p_Fz : PropOf K (cA K "Fraction") "is_zero" (mA K "Fraction" "is_zero") (pA K "Fraction" "is_zero")
  o_Feq : Fn2 K (cA K "Fraction") (mA K "Fraction" "__eq__") "__eq__"
  o_Fadd : Fn2 K (cA K "Fraction") (mA K "Fraction" "__add__") "__add__"
  o_Fsub : Fn2 K (cA K "Fraction") (mA K "Fraction" "__sub__") "__sub__"
  o_Fmul : Fn2 K (cA K "Fraction") (mA K "Fraction" "__mul__") "__mul__"
  o_Fneg : Fn2 K (cA K "Fraction") (mA K "Fraction" "__neg__") "__neg__"
  m_Fover : Meth K (cA K "Fraction") "over" (mA K "Fraction" "over")
  m_Fpow : Meth K (cA K "Fraction") "power" (mA K "Fraction" "power")
  s_Pconst : Stat K (cA K "Poly") "constant" (sA K "Poly" "constant")
  p_Pdeg : PropOf K (cA K "Poly") "degree" (mA K "Poly" "degree") (pA K "Poly" "degree")
  p_Pz : PropOf K (cA K "Poly") "is_zero" (mA K "Poly" "is_zero") (pA K "Poly" "is_zero")
  p_Plead : PropOf K (cA K "Poly") "lead" (mA K "Poly" "lead") (pA K "Poly" "lead")
  o_Peq : Fn2 K (cA K "Poly") (mA K "Poly" "__eq__") "__eq__"
  o_Padd : Fn2 K (cA K "Poly") (mA K "Poly" "__add__") "__add__"
  o_Psub : Fn2 K (cA K "Poly") (mA K "Poly" "__sub__") "__sub__"
  o_Pneg : Fn2 K (cA K "Poly") (mA K "Poly" "__neg__") "__neg__"
  o_Pmul : Fn2 K (cA K "Poly") (mA K "Poly" "__mul__") "__mul__"
  m_Pat : Meth K (cA K "Poly") "at" (mA K "Poly" "at")
  m_Pscaled : Meth K (cA K "Poly") "scaled" (mA K "Poly" "scaled")
  m_Pshifted : Meth K (cA K "Poly") "shifted" (mA K "Poly" "shifted")
  p_Oord : PropOf K (cA K "Operator") "order" (mA K "Operator" "order") (pA K "Operator" "order")
  p_Oz : PropOf K (cA K "Operator") "is_zero" (mA K "Operator" "is_zero") (pA K "Operator" "is_zero")
  m_Opart : Meth K (cA K "Operator") "part" (mA K "Operator" "part")
  s_Qinn : Stat K (cA K "Poly2") "in_n" (sA K "Poly2" "in_n")
  s_Qline : Stat K (cA K "Poly2") "line" (sA K "Poly2" "line")
  p_Qdk : PropOf K (cA K "Poly2") "degree_k" (mA K "Poly2" "degree_k") (pA K "Poly2" "degree_k")
  p_Qz : PropOf K (cA K "Poly2") "is_zero" (mA K "Poly2" "is_zero") (pA K "Poly2" "is_zero")
  m_Qrow : Meth K (cA K "Poly2") "row" (mA K "Poly2" "row")
  o_Qeq : Fn2 K (cA K "Poly2") (mA K "Poly2" "__eq__") "__eq__"
  o_Qadd : Fn2 K (cA K "Poly2") (mA K "Poly2" "__add__") "__add__"
  o_Qsub : Fn2 K (cA K "Poly2") (mA K "Poly2" "__sub__") "__sub__"
  o_Qneg : Fn2 K (cA K "Poly2") (mA K "Poly2" "__neg__") "__neg__"
  o_Qmul : Fn2 K (cA K "Poly2") (mA K "Poly2" "__mul__") "__mul__"
  m_Qmoved : Meth K (cA K "Poly2") "moved" (mA K "Poly2" "moved")
  m_Qpow : Meth K (cA K "Poly2") "power" (mA K "Poly2" "power")
  p_Bfac : PropOf K (cA K "BinomialSum") "factors" (mA K "BinomialSum" "factors") (pA K "BinomialSum" "factors")
  f_F : PySem.W.selfFirst K (cA K "Fraction") = true
  i_F : Isi K (cA K "Fraction")
  f_P : PySem.W.selfFirst K (cA K "Poly") = true
  i_P : Isi K (cA K "Poly")
  f_Q : PySem.W.selfFirst K (cA K "Poly2") = true
  i_Q : Isi K (cA K "Poly2")
  k_cStatics : (Fx.has cStatics).ok K = true
  k_sysModules : (Fx.has sysModules).ok K = true
  k_builtinsNs : (Fx.has builtinsNs).ok K = true
  k_mainGlobals : (Fx.has mainGlobals).ok K = true
  k_bm : (Fx.bm).ok K = true
theorem tx_of {K : Frag} {h : Heap} {mg : Str → Option Value} (X : K.In h) (N : h.Ns mainGlobals mg) (c : SaysX fa fn K) : Tx K mg :=
  { g_trimmed := glo_ok X N (c.fact 0 (f := .a (.glo "trimmed")) rfl),
    g_content := glo_ok X N (c.fact 1 (f := .a (.glo "content")) rfl),
    g_prod2 := glo_ok X N (c.fact 2 (f := .a (.glo "product_of2")) rfl),
    g_divide := glo_ok X N (c.fact 3 (f := .a (.glo "divide")) rfl),
    g_exact := glo_ok X N (c.fact 4 (f := .a (.glo "exact")) rfl),
    g_monic := glo_ok X N (c.fact 5 (f := .a (.glo "monic")) rfl),
    g_primitive := glo_ok X N (c.fact 6 (f := .a (.glo "primitive")) rfl),
    g_cdiv := glo_ok X N (c.fact 7 (f := .a (.glo "common_divisor")) rfl),
    g_cdivof := glo_ok X N (c.fact 8 (f := .a (.glo "common_divisor_of")) rfl),
    g_combine := glo_ok X N (c.fact 9 (f := .a (.glo "combine")) rfl),
    g_multiply := glo_ok X N (c.fact 10 (f := .a (.glo "multiply")) rfl),
    g_identity := glo_ok X N (c.fact 11 (f := .a (.glo "identity")) rfl),
    g_ppS := glo_ok X N (c.fact 12 (f := .a (.glo "pivot_place_systems")) rfl),
    g_without := glo_ok X N (c.fact 13 (f := .a (.glo "without_multiple")) rfl),
    g_clearedS := glo_ok X N (c.fact 14 (f := .a (.glo "cleared_systems")) rfl),
    g_reduced := glo_ok X N (c.fact 15 (f := .a (.glo "reduced")) rfl),
    g_ffree := glo_ok X N (c.fact 16 (f := .a (.glo "first_free")) rfl),
    g_kernel := glo_ok X N (c.fact 17 (f := .a (.glo "kernel")) rfl),
    g_wrow := glo_ok X N (c.fact 18 (f := .a (.glo "whole_row")) rfl),
    g_prow := glo_ok X N (c.fact 19 (f := .a (.glo "primitive_row")) rfl),
    g_ppP := glo_ok X N (c.fact 20 (f := .a (.glo "pivot_place_polysystems")) rfl),
    g_elim := glo_ok X N (c.fact 21 (f := .a (.glo "eliminated")) rfl),
    g_clearedP := glo_ok X N (c.fact 22 (f := .a (.glo "cleared_polysystems")) rfl),
    g_kvec := glo_ok X N (c.fact 23 (f := .a (.glo "kernel_vector")) rfl),
    g_rowsat := glo_ok X N (c.fact 24 (f := .a (.glo "rows_at")) rfl),
    g_invat := glo_ok X N (c.fact 25 (f := .a (.glo "inverse_at_point")) rfl),
    g_pkernel := glo_ok X N (c.fact 26 (f := .a (.glo "poly_kernel")) rfl),
    g_column := glo_ok X N (c.fact 27 (f := .a (.glo "column")) rfl),
    g_forward := glo_ok X N (c.fact 28 (f := .a (.glo "forward")) rfl),
    g_backward := glo_ok X N (c.fact 29 (f := .a (.glo "backward")) rfl),
    g_cdeg := glo_ok X N (c.fact 30 (f := .a (.glo "certificate_degree")) rfl),
    g_equations := glo_ok X N (c.fact 31 (f := .a (.glo "equations")) rfl),
    g_recur := glo_ok X N (c.fact 32 (f := .a (.glo "recurrence")) rfl),
    g_lrec := glo_ok X N (c.fact 33 (f := .a (.glo "least_recurrence")) rfl),
    g_istel := glo_ok X N (c.fact 34 (f := .a (.glo "is_telescoper")) rfl),
    g_isleft := glo_ok X N (c.fact 35 (f := .a (.glo "is_left_inverse")) rfl),
    g_accepts := glo_ok X N (c.fact 36 (f := .a (.glo "accepts_recurrence")) rfl),
    g_Lnum := glo_ok X N (c.fact 37 (f := .a (.glo "_law_numbers")) rfl),
    g_Lpow := glo_ok X N (c.fact 38 (f := .a (.glo "_law_power")) rfl),
    g_Lparts := glo_ok X N (c.fact 39 (f := .a (.glo "_law_parts")) rfl),
    g_Lmade := glo_ok X N (c.fact 40 (f := .a (.glo "_law_made")) rfl),
    g_law := glo_ok X N (c.fact 41 (f := .a (.glo "law")) rfl),
    g_F := glo_ok X N (c.fact 42 (f := .a (.glo "Fraction")) rfl),
    g_P := glo_ok X N (c.fact 43 (f := .a (.glo "Poly")) rfl),
    g_O := glo_ok X N (c.fact 44 (f := .a (.glo "Operator")) rfl),
    g_Q := glo_ok X N (c.fact 45 (f := .a (.glo "Poly2")) rfl),
    g_B := glo_ok X N (c.fact 46 (f := .a (.glo "BinomialSum")) rfl),
    n_len := free_ok X N (c.fact 47 (f := .a (.free "len")) rfl),
    n_list := free_ok X N (c.fact 48 (f := .a (.free "list")) rfl),
    n_tuple := free_ok X N (c.fact 49 (f := .a (.free "tuple")) rfl),
    n_range := free_ok X N (c.fact 50 (f := .a (.free "range")) rfl),
    n_zip := free_ok X N (c.fact 51 (f := .a (.free "zip")) rfl),
    n_enumerate := free_ok X N (c.fact 52 (f := .a (.free "enumerate")) rfl),
    n_max := free_ok X N (c.fact 53 (f := .a (.free "max")) rfl),
    n_min := free_ok X N (c.fact 54 (f := .a (.free "min")) rfl),
    n_abs := free_ok X N (c.fact 55 (f := .a (.free "abs")) rfl),
    n_int := free_ok X N (c.fact 56 (f := .a (.free "int")) rfl),
    n_isinstance := free_ok X N (c.fact 57 (f := .a (.free "isinstance")) rfl),
    n_reversed := free_ok X N (c.fact 58 (f := .a (.free "reversed")) rfl),
    b_gcd := blt_ok X N (c.fact 59 (f := .blt "gcd" "math.gcd") rfl),
    b_lcm := blt_ok X N (c.fact 60 (f := .blt "lcm" "math.lcm") rfl),
    c_F := cls_ok (c.fact 61 (f := .a (.cls "Fraction")) rfl),
    mk_F := mkr_ok (c.fact 62 (f := .a (.mkr "Fraction")) rfl),
    na_F_num := noat_ok (c.fact 63 (f := .a (.noat "Fraction" "num")) rfl),
    na_F_den := noat_ok (c.fact 64 (f := .a (.noat "Fraction" "den")) rfl),
    c_P := cls_ok (c.fact 65 (f := .a (.cls "Poly")) rfl),
    mk_P := mkr_ok (c.fact 66 (f := .a (.mkr "Poly")) rfl),
    na_P_coefs := noat_ok (c.fact 67 (f := .a (.noat "Poly" "coefs")) rfl),
    na_P_den := noat_ok (c.fact 68 (f := .a (.noat "Poly" "den")) rfl),
    c_O := cls_ok (c.fact 69 (f := .a (.cls "Operator")) rfl),
    mk_O := mkr_ok (c.fact 70 (f := .a (.mkr "Operator")) rfl),
    na_O_coefs := noat_ok (c.fact 71 (f := .a (.noat "Operator" "coefs")) rfl),
    c_Q := cls_ok (c.fact 72 (f := .a (.cls "Poly2")) rfl),
    mk_Q := mkr_ok (c.fact 73 (f := .a (.mkr "Poly2")) rfl),
    na_Q_rows := noat_ok (c.fact 74 (f := .a (.noat "Poly2" "rows")) rfl),
    c_B := cls_ok (c.fact 75 (f := .a (.cls "BinomialSum")) rfl),
    mk_B := mkr_ok (c.fact 76 (f := .a (.mkr "BinomialSum")) rfl),
    na_B_weight := noat_ok (c.fact 77 (f := .a (.noat "BinomialSum" "weight")) rfl),
    na_B_base := noat_ok (c.fact 78 (f := .a (.noat "BinomialSum" "base")) rfl),
    na_B_choose := noat_ok (c.fact 79 (f := .a (.noat "BinomialSum" "choose")) rfl),
    na_B_rise := noat_ok (c.fact 80 (f := .a (.noat "BinomialSum" "rise")) rfl),
    na_B_central := noat_ok (c.fact 81 (f := .a (.noat "BinomialSum" "central")) rfl),
    p_Fz := prop_ok (c.fact 82 (f := .prop "Fraction" "is_zero") rfl),
    o_Feq := fn_ok (c.fact 83 (f := .fn "Fraction" "__eq__") rfl),
    o_Fadd := fn_ok (c.fact 84 (f := .fn "Fraction" "__add__") rfl),
    o_Fsub := fn_ok (c.fact 85 (f := .fn "Fraction" "__sub__") rfl),
    o_Fmul := fn_ok (c.fact 86 (f := .fn "Fraction" "__mul__") rfl),
    o_Fneg := fn_ok (c.fact 87 (f := .fn "Fraction" "__neg__") rfl),
    m_Fover := meth_ok (c.fact 88 (f := .a (.meth "Fraction" "over")) rfl),
    m_Fpow := meth_ok (c.fact 89 (f := .a (.meth "Fraction" "power")) rfl),
    s_Pconst := stat_ok (c.fact 90 (f := .stat "Poly" "constant") rfl),
    p_Pdeg := prop_ok (c.fact 91 (f := .prop "Poly" "degree") rfl),
    p_Pz := prop_ok (c.fact 92 (f := .prop "Poly" "is_zero") rfl),
    p_Plead := prop_ok (c.fact 93 (f := .prop "Poly" "lead") rfl),
    o_Peq := fn_ok (c.fact 94 (f := .fn "Poly" "__eq__") rfl),
    o_Padd := fn_ok (c.fact 95 (f := .fn "Poly" "__add__") rfl),
    o_Psub := fn_ok (c.fact 96 (f := .fn "Poly" "__sub__") rfl),
    o_Pneg := fn_ok (c.fact 97 (f := .fn "Poly" "__neg__") rfl),
    o_Pmul := fn_ok (c.fact 98 (f := .fn "Poly" "__mul__") rfl),
    m_Pat := meth_ok (c.fact 99 (f := .a (.meth "Poly" "at")) rfl),
    m_Pscaled := meth_ok (c.fact 100 (f := .a (.meth "Poly" "scaled")) rfl),
    m_Pshifted := meth_ok (c.fact 101 (f := .a (.meth "Poly" "shifted")) rfl),
    p_Oord := prop_ok (c.fact 102 (f := .prop "Operator" "order") rfl),
    p_Oz := prop_ok (c.fact 103 (f := .prop "Operator" "is_zero") rfl),
    m_Opart := meth_ok (c.fact 104 (f := .a (.meth "Operator" "part")) rfl),
    s_Qinn := stat_ok (c.fact 105 (f := .stat "Poly2" "in_n") rfl),
    s_Qline := stat_ok (c.fact 106 (f := .stat "Poly2" "line") rfl),
    p_Qdk := prop_ok (c.fact 107 (f := .prop "Poly2" "degree_k") rfl),
    p_Qz := prop_ok (c.fact 108 (f := .prop "Poly2" "is_zero") rfl),
    m_Qrow := meth_ok (c.fact 109 (f := .a (.meth "Poly2" "row")) rfl),
    o_Qeq := fn_ok (c.fact 110 (f := .fn "Poly2" "__eq__") rfl),
    o_Qadd := fn_ok (c.fact 111 (f := .fn "Poly2" "__add__") rfl),
    o_Qsub := fn_ok (c.fact 112 (f := .fn "Poly2" "__sub__") rfl),
    o_Qneg := fn_ok (c.fact 113 (f := .fn "Poly2" "__neg__") rfl),
    o_Qmul := fn_ok (c.fact 114 (f := .fn "Poly2" "__mul__") rfl),
    m_Qmoved := meth_ok (c.fact 115 (f := .a (.meth "Poly2" "moved")) rfl),
    m_Qpow := meth_ok (c.fact 116 (f := .a (.meth "Poly2" "power")) rfl),
    p_Bfac := prop_ok (c.fact 117 (f := .prop "BinomialSum" "factors") rfl),
    f_F := id (c.fact 118 (f := .fst "Fraction") rfl),
    i_F := isi_ok (c.fact 119 (f := .isi "Fraction") rfl),
    f_P := id (c.fact 120 (f := .fst "Poly") rfl),
    i_P := isi_ok (c.fact 121 (f := .isi "Poly") rfl),
    f_Q := id (c.fact 122 (f := .fst "Poly2") rfl),
    i_Q := isi_ok (c.fact 123 (f := .isi "Poly2") rfl),
    k_cStatics := id (c.fact 124 (f := .has cStatics) rfl),
    k_sysModules := id (c.fact 125 (f := .has sysModules) rfl),
    k_builtinsNs := id (c.fact 126 (f := .has builtinsNs) rfl),
    k_mainGlobals := id (c.fact 127 (f := .has mainGlobals) rfl),
    k_bm := id (c.fact 128 (f := .bm) rfl) }
def loose0 : List PySem.Str := ["gcd", "lcm", "_wall", "SummationError", "DivisionByZero", "ZeroPolynomial", "InvalidSum", "Fraction", "sum_of", "trimmed", "content", "Poly", "from_fractions", "Operator", "Poly2", "product_of2", "divide", "exact", "monic", "primitive", "common_divisor", "common_divisor_of", "combine", "multiply", "identity", "pivot_place", "pivot_place_systems", "without_multiple", "cleared", "cleared_systems"]
def loose1 : List PySem.Str := ["reduced", "first_free", "kernel", "whole_row", "primitive_row", "pivot_place_polysystems", "eliminated", "cleared_polysystems", "kernel_vector", "rows_at", "inverse_at_point", "poly_kernel", "column", "forward", "backward", "certificate_degree", "equations", "recurrence", "least_recurrence", "is_telescoper", "is_left_inverse", "accepts_recurrence", "binomial", "BinomialSum", "_law_numbers", "_law_binomial", "_law_power", "_law_parts", "_law_made", "_law_weight"]
def loose2 : List PySem.Str := ["_law_counted", "_law_value"]
def loose : List PySem.Str := loose0 ++ loose1 ++ loose2
end G
end
section
set_option maxRecDepth 100000
set_option maxHeartbeats 0
/-! The run of the top (printed by gen/facts.py). -/
namespace G
open PySem PySem.Spec PyProof.Rows L2 He
abbrev rowW : PySem.W.OpenRow := PySem.W.OpenLaw.row PySem.Challenge.rw_certsums_k89_whole_sums_decided
abbrev hkW : PySem.W.Hook := hookX fa fn
def obW (s : PySem.W.SharedT) : AlD := obsXG fa fn (HandSHeadRun.getT s)
theorem obW_eq (s : PySem.W.SharedT) : obW s = hkW.obs s.abs := obsXG_eq (HandSHeadRun.getT_eq s)
theorem runW (w : World) : HandSHeadRun.RunEqI rowW (PySem.W.view rowW.prog [0, 78]) hkW obW 9000 loose w := by
  unfold HandSHeadRun.RunEqI
  kernel_rfl
end G
end
section
set_option maxRecDepth 100000
set_option maxHeartbeats 4000000
/-! Calls by promises: methods, properties, classes; boot names; readings of the builtins used. -/
namespace G
open PySem PySem.Spec PyProof.Rows L2 He
open _root_.RT (ItvT iRevA pi_revA)
section
variable {X : Cx} {k k' : Nat} {f g C : Addr} {ps : List Str} {sp : Sp} {dvs : List V} {x m : Str} {p pos apos : Pos} {e o : Expr} {es : List Expr} {ta : TE} {t : TA}
theorem pe_methP {pl : Sem Bool} (h : Pr X.prog X.w X.K X.mg X.base k' f ps dvs sp) (hr : Room k X.A) (hk : k' ≤ k) (c : Cls X.K C) (hm : Meth X.K C m f) (he : PE X o ta) (ha : PA X (e :: es) t)
    (hst : starEach (e :: es) X.env = (false, eval e X.env) :: starEach es X.env := by rfl) (hpl : (backTo pos (starEach es X.env)).any (·.1) = false := by rfl)
    (ht : eval (.Call (.Attribute o m apos) (e :: es) [] pos) X.env = (do
      let ov ← eval o X.env
      standAt apos.atName
      let (f, first) ← holding [ov] (getMethod ov m pl)
      callWith pos f first (backTo pos (starEach (e :: es) X.env)) (backToKw pos (keywordEach [] X.env))) := by rfl) :
    PE X (.Call (.Attribute o m apos) (e :: es) [] pos) (tMeth C m sp dvs E0 ta t) := by
  obtain ⟨fd, ds, F, b, v, kp⟩ := h
  exact pe_meth he c hm F (hr.mono hk) b v L2.pass0 ha hst hpl ht
theorem pe_propP {p g : Addr} (h : Pr X.prog X.w X.K X.mg X.base k' g ps [] sp) (hr : Room k X.A) (hk : k' + 1 ≤ k) (c : Cls X.K C) (hp : PropOf X.K C m p g) (he : PE X e ta)
    (hab : attributeBase e m X.env (eval e X.env) = eval e X.env := by rfl) : PE X (.Attribute e m pos) (tProp C sp [] E0 ta) := by
  obtain ⟨fd, ds, F, b, v, kp⟩ := h
  cases v
  exact pe_prop he c hp F (hr.mono hk) b .nil L2.pass0 hab
theorem pe_makeP (h : Pr X.prog X.w X.K X.mg X.base k' f ps dvs sp) (hr : Room k X.A) (hk : k' + 1 ≤ k) (M : Mk X.K C f) (hg : Gl X x) (hm : X.mg x = some (.ref C)) (ha : PA X (e :: es) t) (hdb : (x == ("__debug__" : Str)) = false := by decide)
    (he : starEach (e :: es) X.env = (false, eval e X.env) :: starEach es X.env := by rfl) (hpl : (backTo pos (starEach es X.env)).any (·.1) = false := by rfl) : PE X (.Call (.Name x p) (e :: es) [] pos) (tMake C sp dvs E0 t) := by
  obtain ⟨fd, ds, F, b, v, kp⟩ := h
  exact pe_make M F (hr.mono hk) hg hm b v L2.pass0 ha hdb he hpl
/-- a promise for fewer: the default written -/
theorem Pr.full {P : Program} {w : World} {K : PySem.W.Frag} {mg : Str → Option Value} {base : Heap} (h : Pr P w K mg base k f ps dvs sp) (hb : ∀ fd, FnOk P w K mg base CX0 k f fd ps sp → Binds K fd ps []) : Pr P w K mg base k f ps [] sp := by
  obtain ⟨fd, ds, F, b, v, kp⟩ := h
  exact ⟨fd, [], F, hb fd F, .nil, kp⟩
end
theorem bt_list : bootBuiltins "list" = some (.type "list") := by decide +kernel
theorem bt_tuple : bootBuiltins "tuple" = some (.type "tuple") := by decide +kernel
theorem bt_int : bootBuiltins "int" = some (.type "int") := by decide +kernel
theorem bt_max : bootBuiltins "max" = some (.builtin "max") := by decide +kernel
theorem bt_min : bootBuiltins "min" = some (.builtin "min") := by decide +kernel
theorem bt_abs : bootBuiltins "abs" = some (.builtin "abs") := by decide +kernel
theorem bt_isi : bootBuiltins "isinstance" = some (.builtin "isinstance") := by decide +kernel
section
variable {Γ : List Ty} {ta tb te : TE} {R Ra Rb : Rp} {K : PySem.W.Frag} {Rs Ss : List Rp} {i j : Int} {b c : Bool} {x y : V}
theorem ev_gcd (ha : EV Γ ta (RI i)) (hb : EV Γ tb (RI j)) : EV Γ (tCB rGcd (tCons ta (tCons tb tNil))) (RI ((Nat.gcd i.natAbs j.natAbs : Nat) : Int)) := fun H0 F H σ e k Q q =>
  ea2 ha hb H0 F H σ e k _ fun vs F1 H1 l1 it => by
    obtain rfl : vs = [.int i, .int j] := Its.ks (xs := [.int i, .int j]) it
    exact ⟨i, j, rfl, q _ F1 H1 l1 rfl⟩
theorem ev_lcm (ha : EV Γ ta (RI i)) (hb : EV Γ tb (RI j)) (h1 : i.natAbs < 2 ^ 100) (h2 : j.natAbs < 2 ^ 100) : EV Γ (tCB rLcm (tCons ta (tCons tb tNil))) (RI ((Nat.lcm i.natAbs j.natAbs : Nat) : Int)) := fun H0 F H σ e k Q q =>
  ea2 ha hb H0 F H σ e k _ fun vs F1 H1 l1 it => by
    obtain rfl : vs = [.int i, .int j] := Its.ks (xs := [.int i, .int j]) it
    exact ⟨i, j, rfl, h1, h2, q _ F1 H1 l1 rfl⟩
def rMax2 : List V → Hp → VK → Prop := fun xs H Q => ∃ i j, xs = [.int i, .int j] ∧ Q (.int (if j > i then j else i)) H
def rMin2 : List V → Hp → VK → Prop := fun xs H Q => ∃ i j, xs = [.int i, .int j] ∧ Q (.int (if j < i then j else i)) H
theorem cr_max2 {X : Cx} (hc : X.calm = true) : CallR X (.builtin "max") rMax2 := call_max2 hc
theorem cr_min2 {X : Cx} (hc : X.calm = true) : CallR X (.builtin "min") rMin2 := call_min2 hc
theorem ev_max2 (ha : EV Γ ta (RI i)) (hb : EV Γ tb (RI j)) : EV Γ (tCB rMax2 (tCons ta (tCons tb tNil))) (RI (max i j)) := fun H0 F H σ e k Q q =>
  ea2 ha hb H0 F H σ e k _ fun vs F1 H1 l1 it => by
    obtain rfl : vs = [.int i, .int j] := Its.ks (xs := [.int i, .int j]) it
    refine ⟨i, j, rfl, ?_⟩
    rw [show (if j > i then j else i) = max i j by split <;> omega]
    exact q _ F1 H1 l1 rfl
theorem ev_min2 (ha : EV Γ ta (RI i)) (hb : EV Γ tb (RI j)) : EV Γ (tCB rMin2 (tCons ta (tCons tb tNil))) (RI (min i j)) := fun H0 F H σ e k Q q =>
  ea2 ha hb H0 F H σ e k _ fun vs F1 H1 l1 it => by
    obtain rfl : vs = [.int i, .int j] := Its.ks (xs := [.int i, .int j]) it
    refine ⟨i, j, rfl, ?_⟩
    rw [show (if j < i then j else i) = min i j by split <;> omega]
    exact q _ F1 H1 l1 rfl
/-- max of a new list of ints -/
theorem ev_maxL {ns : List Int} (ha : EO Γ ta (ns.map RI)) (hn : 0 < ns.length) (m : Int) (h1 : m ∈ ns) (h2 : ∀ y, y ∈ ns → y ≤ m) : EV Γ (tCB (rMax K) (tCons ta tNil)) (RI m) := fun H0 F H σ e k Q q =>
  ha H0 F H σ e k _ fun l vs F1 H1 l1 g1 g2 g3 it => by
    rw [it.ints] at g3
    refine ⟨l, ns, rfl, .inl (.inl g3), hn, fun y hy hle => ?_⟩
    obtain rfl : y = m := Int.le_antisymm (h2 y hy) (hle m h1)
    exact q _ F1 H1 l1 rfl
theorem ev_maxF {ns : List Int} (ha : EV Γ ta (RL (ns.map RI))) (hn : 0 < ns.length) (m : Int) (h1 : m ∈ ns) (h2 : ∀ y, y ∈ ns → y ≤ m) : EV Γ (tCB (rMax K) (tCons ta tNil)) (RI m) := fun H0 F H σ e k Q q =>
  ha H0 F H σ e k _ fun v F1 H1 l1 r1 => by
    obtain ⟨l, vs, rfl, g3, it⟩ := r1
    rw [it.ints] at g3
    refine ⟨l, ns, rfl, .inl (.inl (l1.s _ _ g3)), hn, fun y hy hle => ?_⟩
    obtain rfl : y = m := Int.le_antisymm (h2 y hy) (hle m h1)
    exact q _ F1 H1 l1 rfl
theorem ev_abs (ha : EV Γ ta (RI i)) : EV Γ (tCB (fun xs H Q => ∃ i, xs = [.int i] ∧ Q (.int (if i < 0 then -i else i)) H) (tCons ta tNil)) (RI (i.natAbs : Int)) := fun H0 F H σ e k Q q =>
  ha H0 F H σ e k _ fun v F1 H1 l1 r1 => by
    cases (show v = .int i from r1)
    refine ⟨i, rfl, ?_⟩
    rw [show (if i < 0 then -i else i) = (i.natAbs : Int) by split <;> omega]
    exact q _ F1 H1 l1 rfl
/-- int(a bool) -/
theorem ev_intB (ha : EV Γ ta (RB b)) : EV Γ (tCB (fun xs H Q => (∃ i, xs = [.int i] ∧ Q (.int i) H) ∨ ∃ k, xs = [.bl k] ∧ Q (.int (if k then 1 else 0)) H) (tCons ta tNil)) (RI (if b then 1 else 0)) := fun H0 F H σ e k Q q =>
  ha H0 F H σ e k _ fun v F1 H1 l1 r1 => by
    cases (show v = .bl b from r1)
    exact .inr ⟨b, rfl, q _ F1 H1 l1 rfl⟩
/-- isinstance(an instance, its class) -/
theorem ev_isi {C : Addr} (ha : EV Γ ta Ra) (hi : IsIns Ra C "") (c : Cls K C) (I : Isi K C) : EV Γ (tCB (rIsi K) (tCons ta (tCons (tC (.ref C)) tNil))) (RB true) := fun H0 F H σ e k Q q =>
  ea2 ha ev_c H0 F H σ e k _ fun vs F1 H1 l1 it => by
    match vs, it with
    | [v, u], it =>
      obtain ⟨r1, r2, _⟩ := it
      cases (show u = .ref C from r2)
      obtain ⟨a, dx, fs, rfl, h1, _⟩ := hi v F1 r1
      exact ⟨.ref a, .ref C, .ref C, .ref C, true, rfl, .own C, .base (.ins (l1.s _ _ h1) c I.ca I.cn I.ct I.cm), by unfold PySem.W.kitOne; simp, q _ F1 H1 l1 rfl⟩
/-- is None, is not None -/
theorem ev_isN (ha : EV Γ ta (RK x)) : EV Γ (tOp (fun x y H Q => y = .non ∧ Q (.bl (decide (x = .non))) H) ta (tC .non)) (RB (decide (x = .non))) := ev_opK ha ev_c fun H Q q => ⟨rfl, q⟩
theorem ev_isNot (ha : EV Γ ta (RB b)) (hb : EV Γ tb (RB c)) : EV Γ (tOp rNotB ta tb) (RB (!decide (b = c))) := ev_opK ha hb fun H Q q => ⟨b, c, rfl, rfl, q⟩
/-! own operators -/
/-- an instance of the class at C (nothing more) -/
def IsI (Ra : Rp) (C : Addr) : Prop := ∀ v F, Ra.r v F → ∃ a dx fs, v = .ref a ∧ F a = some (.ins C dx fs)
theorem ev_own2 {C : Addr} {sp : Sp} (ha : EV Γ ta Ra) (hb : EV Γ tb Rb) (i1 : IsI Ra C) (i2 : IsI Rb C) (hs : ∀ vs H Q E, SpF [Ra, Rb] R vs H Q E → sp vs H Q E) : EV Γ (tOp (rOwn2 C sp) ta tb) R :=
  ev_op ha hb fun x y F H Q e r1 r2 q => by
    obtain ⟨a, dx, fs, rfl, h1⟩ := i1 x F r1
    obtain ⟨b, dy, gs, rfl, h2⟩ := i2 y F r2
    exact ⟨a, dx, fs, b, dy, gs, rfl, rfl, e _ _ h1, e _ _ h2, hs _ _ _ _ ⟨F, e, ⟨r1, r2, trivial⟩, q⟩⟩
theorem ev_own1 {C : Addr} {sp : Sp} (ha : EV Γ ta Ra) (i1 : IsI Ra C) (hs : ∀ vs H Q E, SpF [Ra] R vs H Q E → sp vs H Q E) : EV Γ (tUn (rOwn1 C sp) ta) R :=
  ev_unR ha fun x F H Q e r1 q => by
    obtain ⟨a, dx, fs, rfl, h1⟩ := i1 x F r1
    exact ⟨a, dx, fs, rfl, e _ _ h1, hs _ _ _ _ ⟨F, e, ⟨r1, trivial⟩, q⟩⟩
/-- a chain of two comparisons of ints, as a test -/
theorem et_chain {tc : TE} {p q : Int → Int → Bool} {i j l : Int} (ha : EV Γ ta (RI i)) (hb : EV Γ tb (RI j)) (hc : EV Γ te (RI l)) :
    ET Γ (tTest (tChain (rI0 fun i j => .bl (p i j)) (rI0 fun i j => .bl (q i j)) ta tb te)) (p i j && q j l) := fun H0 F H σ e k Q z =>
  ha H0 F H σ e k _ fun v F1 H1 l1 r1 => hb H0 F1 H1 σ l1.s (k.le l1) _ fun u F2 H2 l2 r2 => by
    cases (show v = .int i from r1)
    cases (show u = .int j from r2)
    refine ⟨i, j, rfl, rfl, p i j, rfl, ?_⟩
    cases hp : p i j with
    | true =>
      refine L2.iteT (hc H0 F2 H2 σ l2.s (k.le (l1.trans l2)) _ fun w F3 H3 l3 r3 => ?_)
      cases (show w = .int l from r3)
      refine ⟨j, l, rfl, rfl, _, rfl, ?_⟩
      have z' := z F3 H3 ((l1.trans l2).trans l3)
      rw [hp, Bool.true_and] at z'
      exact z'
    | false =>
      refine L2.iteF ⟨_, rfl, ?_⟩
      have z' := z F2 H2 (l1.trans l2)
      rw [hp, Bool.false_and] at z'
      exact z'
end
end G
end
section
set_option maxRecDepth 100000
set_option maxHeartbeats 4000000
/-! __init__, keywords, instances by fields, pairs unpacked. -/
namespace G
open PySem PySem.Spec PyProof.Rows L2 He
/-! ### instances -/
def RN (C : Addr) (ns : List Str) (Rs : List Rp) : Rp :=
  ⟨fun v F => ∃ a dx vs, v = .ref a ∧ F a = some (.ins C dx (ns.zip vs)) ∧ Its Rs vs F, fun _ _ _ e ⟨a, dx, vs, h1, h2, h3⟩ => ⟨a, dx, vs, h1, e _ _ h2, h3.mono e⟩⟩
theorem lookup_zip : ∀ {ns : List Str} {vs : List V} {i : Nat} {f : Str} {v : V}, ns.Nodup → ns[i]? = some f → vs[i]? = some v → (ns.zip vs).lookup f = some v
  | [], _, _, _, _, _, e, _ => by simp at e
  | _ :: _, [], _, _, _, _, _, e => by simp at e
  | n :: ns, w :: vs, 0, f, v, _, e, e2 => by
    simp at e e2; subst e; subst e2
    rw [List.zip_cons_cons, List.lookup_cons_self]
  | n :: ns, w :: vs, i + 1, f, v, hn, e, e2 => by
    have hn' := List.nodup_cons.mp hn
    simp at e e2
    have hne : (f == n) = false := beq_eq_false_iff_ne.mpr fun z => by
      subst z; exact hn'.1 (List.mem_of_getElem? e)
    rw [List.zip_cons_cons, List.lookup_cons, hne]
    exact lookup_zip hn'.2 e e2
theorem lookup_zip_none : ∀ {ns : List Str} {vs : List V} {f : Str}, f ∉ ns → (ns.zip vs).lookup f = none
  | [], _, _, _ => rfl
  | _ :: _, [], _, _ => rfl
  | n :: ns, w :: vs, f, h => by
    have hne : (f == n) = false := beq_eq_false_iff_ne.mpr fun z => by
      subst z; exact h (List.mem_cons_self ..)
    rw [List.zip_cons_cons, List.lookup_cons, hne]
    exact lookup_zip_none fun z => h (List.mem_cons_of_mem _ z)
section
variable {C : Addr} {ns : List Str} {Rs : List Rp} {f m : Str} {R : Rp}
theorem rn_has (i : Nat) (hn : ns.Nodup) (h : ns[i]? = some f) (hR : Rs[i]? = some R) : HasF (RN C ns Rs) C f R := fun v F ⟨a, dx, vs, e, h1, it⟩ => by
  obtain ⟨u, hu, ru⟩ := it.get hR
  exact ⟨a, dx, _, u, e, h1, lookup_zip hn h hu, ru⟩
theorem rn_no (h : m ∉ ns) : IsIns (RN C ns Rs) C m := fun v F ⟨a, dx, vs, e, h1, _⟩ => ⟨a, dx, _, e, h1, lookup_zip_none h⟩
theorem rn_is : IsI (RN C ns Rs) C := fun v F ⟨a, dx, vs, e, h1, _⟩ => ⟨a, dx, _, e, h1⟩
end
/-! ### __init__ -/
def SpI {ι : Type} (C : Addr) (hy : ι → Prop) (A : ι → List Rp) (B : ι → Rp) : Sp := fun vs H Q E => ∃ i, hy i ∧ SpInit C (A i) (B i) vs H Q E
def ctxI (C dx a : Addr) (As : List Rp) (m : Nat) : List Ty := .mk C dx a [] [] :: ctx As m
theorem Ok.startI {F Hp0 : Hp} {N : List Str} {As : List Rp} {us : List V} {C dx a : Addr} {m : Nat} (it : Its As us F) (ex : Ex F Hp0) (na : Hp0 a = none) (nd : Hp0 dx = none) (ne : dx ≠ a) (hm : N.length - (us.length + 1) = m) :
    Ok Hp0 (ctxI C dx a As m) (L2.start N (.ref a :: us)) F (upd (upd Hp0 dx (.own a)) a (.ins C dx [])) := by
  have hl := it.len
  have hlen : (L2.start N (.ref a :: us)).length = (ctxI C dx a As m).length := by
    unfold L2.start ctxI ctx
    simp only [List.length_append, List.length_map, List.length_replicate, List.length_cons]
    omega
  have hs : ∀ i, (L2.start N (.ref a :: us))[i + 1]? = (us.map some ++ List.replicate m none)[i]? := fun i => by
    unfold L2.start
    rw [List.map_cons, List.cons_append, List.getElem?_cons_succ, List.length_cons, hm]
  refine ⟨hlen, fun i T e => ?_, fun i j T U l hij e1 e2 m1 m2 _ _ => ?_⟩
  · cases i with
    | zero =>
      cases (Option.some.inj (show some (Ty.mk C dx a [] []) = some T from e))
      refine ⟨a, rfl, na, ex.nn na, nd, ex.nn nd, ne, ?_, upd_same, trivial, rfl⟩
      rw [upd_ne ne, upd_same]
    | succ i =>
      have e' : (ctx As m)[i]? = some T := e
      rw [hs]
      unfold ctx at e'
      by_cases hi : i < As.length
      · rw [List.getElem?_append_left (by rw [List.length_map]; exact hi)] at e'
        obtain ⟨R, v, rfl, h2, h3⟩ := it.fzAt e'
        refine ⟨v, ?_, h3⟩
        rw [List.getElem?_append_left (by rw [List.length_map, ← hl]; exact hi)]
        exact h2
      · rw [List.getElem?_append_right (by rw [List.length_map]; omega)] at e'
        rw [List.eq_of_mem_replicate (List.mem_of_getElem? e')]
        trivial
  · cases i with
    | succ i =>
      have e' : (ctx As m)[i]? = some T := e1
      rw [ctx_fix e'] at m1; cases m1
    | zero =>
      cases j with
      | zero => exact (hij rfl).elim
      | succ j =>
        have e' : (ctx As m)[j]? = some U := e2
        rw [ctx_fix e'] at m2; cases m2
section
variable {P : Program} {w : World} {K : PySem.W.Frag} {mg : Str → Option Value} {base : Heap}
theorem def_okI {x qual : Str} {st : Stmt} {dvs : List V} {kws : List (Str × V)} {f C : Addr} {fd : FuncData} {N ps : List Str} {k : Nat} {ι : Type} {hy : ι → Prop} {A : ι → List Rp} {B : ι → Rp} (F : FunD K x qual (defArgs st) (defBody st) (defScope st) dvs kws f fd) (S : FnScope N ps (defScope st)) (hl : ∀ i, (A i).length + 1 = ps.length)
    (hbody : ∀ (cdv : Value) (A' : Around) (outer : List Env) (s : Shared) (H : Hp) (E : XK), Room k (A'.deeper (envOfC qual (defScope st) s.heap.objs.size f cdv)) →
      ∃ t, PSs (cxOf CX0 P w K mg base N qual (defScope st) f cdv A' outer s H E).nox (defBody st) t ∧ ∀ i, hy i → ∀ (F0 H0 : Hp) (Q : VK) (a dx : Addr), (∀ F2 H2, Le F0 H0 F2 H2 → (B i).r (.ref a) F2 → Q .non H2) →
        SJ F0 H0 { nx := fun _ H' => Q .non H', rt := Q } (ctxI C dx a (A i) (N.length - ps.length)) t) :
    FnOk P w K mg base CX0 (k + 1) f fd ps (SpI C hy A B) := by
  refine F.ok S (fun vs H Q E h => ?_) fun cdv A' outer s H vs Q E hr h => ?_
  · obtain ⟨i, _, F, Hp0, a, dx, us, rfl, _, _, _, _, _, it, _⟩ := h
    rw [List.length_cons, ← it.len, hl]
  · obtain ⟨t, d, r⟩ := hbody cdv A' outer s H E hr
    obtain ⟨i, hi, F0, Hp0, a, dx, us, rfl, na, nd, ne, rfl, ex, it, q⟩ := h
    refine ⟨t, d.nox, ?_⟩
    have hm : N.length - (us.length + 1) = N.length - ps.length := by rw [← it.len, hl]
    have o := Ok.startI (C := C) (N := N) it ex na nd ne hm
    have l1 : Le F0 Hp0 F0 (upd (upd Hp0 dx (.own a)) a (.ins C dx [])) :=
      (Le.alloc ex nd).trans (Le.alloc (ex.trans (Ex.new nd)) (by rw [upd_ne (Ne.symm ne)]; exact na))
    exact r i hi F0 Hp0 Q a dx q _ F0 _ l1 o
end
section
variable {F0 H0 : Hp} {D : Ends} {Γ : List Ty} {ta tb te : TE} {R Ra Rb : Rp} {Rs : List Rp} {tz : TS} {i j1 j2 : Nat} {K : PySem.W.Frag} {C dx a : Addr} {fs : List (Str × V)} {f : Str}
theorem putF_new : ∀ {fs : List (Str × V)} {f : Str} {v : V}, fs.lookup f = none → putF f v fs = fs ++ [(f, v)]
  | [], _, _, _ => rfl
  | (g, x) :: r, f, v, h => by
    rw [List.lookup_cons] at h
    by_cases hg : (f == g) = true
    · rw [hg] at h; cases h
    · have hg' : (f == g) = false := by simpa using hg
      rw [hg'] at h
      have hne : g ≠ f := fun z => by subst z; simp at hg
      show (if g = f then (g, v) :: r else (g, x) :: putF f v r) = _
      rw [if_neg hne, putF_new h]
      rfl
/-- the instance in the making in slot i gets a field -/
theorem Ok.mutMk {F H : Hp} {σ : L2.St} {i : Nat} {fs' : List (Str × V)} {Rs' : List Rp} (k : Ok H0 Γ σ F H) (hi : Γ[i]? = some (.mk C dx a fs Rs)) (it : Its Rs' (fs'.map (·.2)) F) :
    Ok H0 (Γ.set i (.mk C dx a fs' Rs')) σ F (upd H a (.ins C dx fs')) ∧ H0 a = none ∧ F a = none ∧ σ[i]? = some (some (.ref a)) ∧ H a = some (.ins C dx fs) ∧ Its Rs (fs.map (·.2)) F := by
  obtain ⟨x, hs, h0, hf, d0, df, ne, hd, hh, it', rfl⟩ := k.slot i _ hi
  refine ⟨⟨by rw [List.length_set, k.len], fun j T e => ?_, fun j j' T U l' hj e1 e2 m1 m2 s1 s2 => ?_⟩, h0, hf, hs, hh, it'⟩
  · by_cases hij : i = j
    · subst hij
      rw [List.getElem?_set] at e
      simp only [if_true] at e
      split at e
      · cases e
        exact ⟨x, hs, h0, hf, d0, df, ne, by rw [upd_ne ne]; exact hd, upd_same, it, rfl⟩
      · cases e
    · rw [List.getElem?_set_ne hij] at e
      have h := k.slot j T e
      cases T with
      | any => trivial
      | fz R => exact h
      | own Rs2 =>
        obtain ⟨l2, vs2, e2, h02, hf2, hh2, it2⟩ := h
        have nl : l2 ≠ x := fun z => by
          subst z
          exact k.apart i j _ _ l2 hij hi e rfl rfl hs e2
        exact ⟨l2, vs2, e2, h02, hf2, by rw [upd_ne nl]; exact hh2, it2⟩
      | mk C' dx' a' fs2 Rs2 =>
        obtain ⟨y, e2, h02, hf2, d02, df2, ne2, hd2, hh2, it2⟩ := h
        have nl : y ≠ x := fun z => by
          subst z
          exact k.apart i j _ _ y hij hi e rfl rfl hs e2
        have nd : dx' ≠ x := fun z => by
          subst z
          rw [hh] at hd2; cases hd2
        exact ⟨y, e2, h02, hf2, d02, df2, ne2, by rw [upd_ne nd]; exact hd2, by rw [upd_ne nl]; exact hh2, it2⟩
  · have g1 : ∃ T', Γ[j]? = some T' ∧ T'.mov = true := by
      by_cases hij : i = j
      · subst hij; exact ⟨_, hi, rfl⟩
      · rw [List.getElem?_set_ne hij] at e1; exact ⟨T, e1, m1⟩
    have g2 : ∃ T', Γ[j']? = some T' ∧ T'.mov = true := by
      by_cases hij : i = j'
      · subst hij; exact ⟨_, hi, rfl⟩
      · rw [List.getElem?_set_ne hij] at e2; exact ⟨U, e2, m2⟩
    obtain ⟨T', t1, t2⟩ := g1
    obtain ⟨U', u1, u2⟩ := g2
    exact k.apart j j' T' U' l' hj t1 u1 t2 u2 s1 s2
theorem sj_fld (hi : Γ[i]? = some (.mk C dx a fs Rs)) (h : EV Γ te R) (c : Cls K C) (n : NoAttr K C f) (hl : fs.length < 1000) (hn : fs.lookup f = none) (k : ∀ v, NX F0 H0 D.nx (Γ.set i (.mk C dx a (fs ++ [(f, v)]) (Rs ++ [R])))) :
    SJ F0 H0 D Γ (sFld K (tVar i) te f) := fun σ F H e o =>
  h H0 F H σ e.s o _ fun v F2 H2 l r => by
    have o2 := o.le l
    obtain ⟨x, hs, h0, hf, d0, df, ne, hd, hh, it', rfl⟩ := o2.slot i _ hi
    refine ⟨.ref x, hs, x, C, dx, fs, rfl, hh, c, n, hl, ?_⟩
    rw [putF_new hn]
    have it : Its (Rs ++ [R]) ((fs ++ [(f, v)]).map (·.2)) F2 := by
      rw [List.map_append]
      exact it'.append ⟨r, trivial⟩
    exact k v σ F2 _ ((e.trans l).mut h0 hf) (o2.mutMk hi it).1
theorem q_fld (hi : Γ[i]? = some (.mk C dx a fs Rs)) (h : EV Γ te R) (c : Cls K C) (n : NoAttr K C f) (hl : fs.length < 1000) (hn : fs.lookup f = none) (k : ∀ v, SJ F0 H0 D (Γ.set i (.mk C dx a (fs ++ [(f, v)]) (Rs ++ [R]))) tz) :
    SJ F0 H0 D Γ (tSeq (sFld K (tVar i) te f) tz) := sj_fld (D := { D with nx := tz D }) hi h c n hl hn k
/-- the made instance -/
theorem nx_made {P : Hp → Prop} {ns : List Str} (hi : Γ[i]? = some (.mk C dx a fs Rs)) (hz : fs = ns.zip (fs.map (·.2))) (q : ∀ F2 H2, Le F0 H0 F2 H2 → (RN C ns Rs).r (.ref a) F2 → P H2) : NX F0 H0 (fun _ H' => P H') Γ := fun σ F H e o => by
  obtain ⟨x, hs, h0, hf, d0, df, ne, hd, hh, it', rfl⟩ := o.slot i _ hi
  have l2 := e.freeze h0 hh hf
  exact q _ H l2 ⟨x, dx, fs.map (·.2), rfl, by rw [upd_same, ← hz], it'.mono (Ex.new hf)⟩
/-- x, y = e -/
theorem sj_pair (h : EV Γ te (RT [Ra, Rb])) (k : NX F0 H0 D.nx ((Γ.set j1 (.fz Ra)).set j2 (.fz Rb))) : SJ F0 H0 D Γ (tAsg te (gTup K 2 (gCons (gName j1) (gCons (gName j2) gNil)))) := fun σ F H e o =>
  h H0 F H σ e.s o _ fun v F1 H1 l1 r1 => by
    obtain ⟨l, vs, rfl, h1, it⟩ := r1
    match vs, it with
    | [x, y], it =>
      refine pair_set (F := F1) (l1.s _ _ h1) ?_
      exact k _ F1 H1 (e.trans l1) (((o.le l1).set it.1).set it.2.1)
theorem q_pair (h : EV Γ te (RT [Ra, Rb])) (k : SJ F0 H0 D ((Γ.set j1 (.fz Ra)).set j2 (.fz Rb)) tz) : SJ F0 H0 D Γ (tSeq (tAsg te (gTup K 2 (gCons (gName j1) (gCons (gName j2) gNil)))) tz) := sj_pair (D := { D with nx := tz D }) h k
/-- x -= e, ints -/
theorem sj_aug {x y : Int} {g : Int → Int → Int} (hi : Γ[i]? = some (.fz (RI x))) (h : EV Γ te (RI y)) (k : NX F0 H0 D.nx (Γ.set i (.fz (RI (g x y))))) : SJ F0 H0 D Γ (tAug i te (ipI g)) := fun σ F H e o => by
  obtain ⟨v, hs, r⟩ := o.slot i _ hi
  cases (show v = .int x from r)
  refine ⟨.int x, hs, h H0 F H σ e.s o _ fun u F2 H2 l r2 => ?_⟩
  cases (show u = .int y from r2)
  exact ⟨x, y, rfl, rfl, k _ F2 H2 (e.trans l) ((o.le l).set (R := RI (g x y)) rfl)⟩
end
/-! ### keywords -/
section
variable {P : Program} {w : World} {K : PySem.W.Frag} {mg : Str → Option Value} {base : Heap} {x qual : Str} {params : Arguments} {body : List Stmt} {scope : Scope} {f : Addr} {fd : FuncData} {ps ks : List Str}
theorem kbindsN (F : FunD K x qual params body scope [] [] f fd) (n : Nat)
    (h : ∀ (kV doc pm : Value) (an : Option Addr) (cdv ct : Value) (us ws : List Value), us.length = n → ws.length = ks.length → bindArgs (PySem.W.fnOf x qual params body scope .none kV doc pm an cdv ct) ⟨us, ks.zip ws⟩ = pure (ps.zip (us ++ ws))) :
    KBn K fd ps n ks (fun us ws => us ++ ws) (fun vs zs => vs ++ zs) := by
  obtain ⟨oc, od, dV, kV, doc, pm, an, cdv, ct, osl, rfl, lk, hcd, hD, hK⟩ := F.ex
  rcases hD with ⟨_, rfl⟩ | ⟨e, _⟩
  · exact ⟨fun s us ws X l1 l2 => .of_eq (h kV doc pm an cdv ct us ws l1 l2), fun r1 r2 => r1.append r2⟩
  · exact absurd rfl e
/-- a def called by keywords: n values, then the names ks -/
def PrK (P : Program) (w : World) (K : PySem.W.Frag) (mg : Str → Option Value) (base : Heap) (k : Nat) (f : Addr) (ps : List Str) (n : Nat) (ks : List Str) (sp : Sp) : Prop :=
  ∃ fd, FnOk P w K mg base CX0 k f fd ps sp ∧ KBn K fd ps n ks (fun us ws => us ++ ws) (fun vs zs => vs ++ zs) ∧ PySem.W.keepIn K (.ref f) = true
end
section
variable {X : Cx} {k k' n : Nat} {f C : Addr} {ps ks : List Str} {sp : Sp} {x : Str} {p pos : Pos} {e : Expr} {es : List Expr} {kws : List Keyword} {t tk : TA}
theorem pe_callKw (h : PrK X.prog X.w X.K X.mg X.base k' f ps n ks sp) (hr : Room k X.A) (hk : k' ≤ k) (hg : Gl X x) (hm : X.mg x = some (.ref f)) (ha : PA X (e :: es) t) (hkw : PK X kws tk)
    (hall : (backToKw pos (keywordEach kws X.env)).all (·.1.isSome) = true := by rfl) (hks : (backToKw pos (keywordEach kws X.env)).filterMap (·.1) = ks := by rfl)
    (hdb : (x == ("__debug__" : Str)) = false := by decide) (he : starEach (e :: es) X.env = (false, eval e X.env) :: starEach es X.env := by rfl)
    (hpl : ((backTo pos (starEach (e :: es) X.env)).any (·.1) || (backToKw pos (keywordEach kws X.env)).any (·.1.isNone)) = false := by rfl) :
    PE X (.Call (.Name x p) (e :: es) kws pos) (tCallN n ks.length sp (fun vs zs => vs ++ zs) E0 t tk) := by
  obtain ⟨fd, F, b, kp⟩ := h
  exact pe_callN F (hr.mono hk) hg hm kp b L2.pass0 ha hkw hall hks hdb he hpl
theorem pe_makeKw (h : PrK X.prog X.w X.K X.mg X.base k' f ps (n + 1) ks sp) (hr : Room k X.A) (hk : k' + 1 ≤ k) (M : Mk X.K C f) (hg : Gl X x) (hm : X.mg x = some (.ref C)) (ha : PA X (e :: es) t) (hkw : PK X kws tk)
    (hall : (backToKw pos (keywordEach kws X.env)).all (·.1.isSome) = true := by rfl) (hks : (backToKw pos (keywordEach kws X.env)).filterMap (·.1) = ks := by rfl)
    (hdb : (x == ("__debug__" : Str)) = false := by decide) (he : starEach (e :: es) X.env = (false, eval e X.env) :: starEach es X.env := by rfl)
    (hpl : ((backTo pos (starEach (e :: es) X.env)).any (·.1) || (backToKw pos (keywordEach kws X.env)).any (·.1.isNone)) = false := by rfl) :
    PE X (.Call (.Name x p) (e :: es) kws pos) (tMakeN C n ks.length sp (fun vs zs => vs ++ zs) E0 t tk) := by
  obtain ⟨fd, F, b, kp⟩ := h
  exact pe_makeN M F (hr.mono hk) hg hm b L2.pass0 ha hkw hall hks hdb he hpl
end
section
variable {Γ : List Ty} {ta tb te : TE} {R Ra Rb : Rp} {K : PySem.W.Frag} {As Bs Rs Ss : List Rp} {n m : Nat} {sp : Sp} {E : XK} {t tk : TA} {C : Addr}
theorem ev_callN (h : EA Γ t As) (h2 : EA Γ tk Bs) (hn : As.length = n) (hm : Bs.length = m) (hs : ∀ vs H Q E, SpF (As ++ Bs) R vs H Q E → sp vs H Q E) : EV Γ (tCallN n m sp (fun vs zs => vs ++ zs) E t tk) R := fun H0 F H σ e k Q q =>
  h H0 F H σ e k _ fun vs F1 H1 l1 r1 => h2 H0 F1 H1 σ l1.s (k.le l1) _ fun zs F2 H2 l2 r2 => ⟨by rw [← r1.len, hn], by rw [← r2.len, hm], hs _ _ _ _ ⟨F2, l2.s, (r1.mono l2.f).append r2, fun v F3 H3 l3 r3 => q v F3 H3 ((l1.trans l2).trans l3) r3⟩⟩
theorem ev_makeN (h : EA Γ t As) (h2 : EA Γ tk Bs) (hn : As.length = n) (hm : Bs.length = m) (hs : ∀ vs H Q E, SpInit C (As ++ Bs) R vs H Q E → sp vs H Q E) : EV Γ (tMakeN C n m sp (fun vs zs => vs ++ zs) E t tk) R := fun H0 F H σ e k Q q =>
  h H0 F H σ e k _ fun vs F1 H1 l1 r1 => h2 H0 F1 H1 σ l1.s (k.le l1) _ fun zs F2 H2 l2 r2 => ⟨by rw [← r1.len, hn], by rw [← r2.len, hm], fun a dx na nd ne => hs _ _ _ _ ⟨F2, H2, a, dx, vs ++ zs, rfl, na, nd, ne, rfl, l2.s, (r1.mono l2.f).append r2, fun F3 H3 l3 r3 => ⟨rfl, q _ F3 H3 ((l1.trans l2).trans l3) r3⟩⟩⟩
/-- the running body's context is a plain one -/
theorem qu_of {P : Program} {w : World} {mg : Str → Option Value} {base : Heap} {N : List Str} {qual : Str} {scope : Scope} {f : Addr} {cd : Value} {A : Around} {outer : List Env} {s : Shared} {H : Hp} {E : XK} {N' ps : List Str}
    (ns : base.NoSeer) (tr : P.given.tree = none) (S : FnScope N' ps scope) : Qu (cxOf CX0 P w K mg base N qual scope f cd A outer s H E).nox := ⟨ns, tr, _, outer, rfl, S.gen, S.co, rfl, rfl⟩
end
end G
end
section
set_option maxRecDepth 100000
set_option maxHeartbeats 4000000
/-! Rules with the kept facts K named (inside comprehensions). -/
namespace G
open PySem PySem.Spec PyProof.Rows L2 He
section
variable {X : Cx} {e a b tg : Expr} {f : Str} {pos : Pos} {ta tb : TE} (K : PySem.W.Frag) (hK : X.K = K)
include hK
theorem pe_fldK (he : PE X e ta) (hb : attributeBase e f X.env (eval e X.env) = eval e X.env) : PE X (.Attribute e f pos) (tFld K ta f) := by subst hK; exact pe_fld he hb
theorem ix_listK : IxR X (rIxL K) := by subst hK; exact ix_list
theorem ix_tupK : IxR X (rIxT K) := by subst hK; exact ix_tup
theorem sl_listK : SlR X (rSlL K) := by subst hK; exact sl_list
theorem call_len_seqK : CallR X (.builtin "len") (rLenS K) := by subst hK; exact call_len_seq
theorem pi_listK (he : PE X e ta) : PI X tg e (iList K ta) := by subst hK; exact pi_list he
theorem pi_tupK (he : PE X e ta) : PI X tg e (iTup K ta) := by subst hK; exact pi_tup he
theorem call_list_ofK : CallR X (.type "list") (fun xs H Q => ∃ p ys, xs = [.ref p] ∧ (SqL K H p ys ∨ SqT K H p ys) ∧ ∀ l, H l = none → Q (.ref l) (upd H l (.lst ys))) := by subst hK; exact call_list_of
theorem call_tuple_ofK : CallR X (.type "tuple") (fun xs H Q => ∃ p ys, xs = [.ref p] ∧ ((SqL K H p ys ∧ ∀ l, H l = none → Q (.ref l) (upd H l (.tup ys))) ∨ (SqT K H p ys ∧ Q (.ref p) H))) := by subst hK; exact call_tuple_of
end
end G
end
section
/-! The mirror: what each def computes, in plain Lean. -/
namespace G
/-- n turns of a loop -/
def loop {α : Type} (f : Nat → α → α) : Nat → α → α
  | 0, s => s
  | n + 1, s => f n (loop f n s)
structure Fr where
  num : Int
  den : Int
  deriving DecidableEq
structure Po where
  co : List Int
  den : Int
  deriving DecidableEq
abbrev Q2 := List Po
def gcdI (a b : Int) : Int := ((Nat.gcd a.natAbs b.natAbs : Nat) : Int)
def lcmI (a b : Int) : Int := ((Nat.lcm a.natAbs b.natAbs : Nat) : Int)
/-! ### fractions -/
def sgnd (g d : Int) : Int := if d < 0 then -g else g
def mkF (n d : Int) : Fr := ⟨n.fdiv (sgnd (gcdI n d) d), d.fdiv (sgnd (gcdI n d) d)⟩
def fAdd (a b : Fr) : Fr := mkF (a.num * b.den + b.num * a.den) (a.den * b.den)
def fSub (a b : Fr) : Fr := mkF (a.num * b.den - b.num * a.den) (a.den * b.den)
def fMul (a b : Fr) : Fr := mkF (a.num * b.num) (a.den * b.den)
def fNeg (a : Fr) : Fr := mkF (-a.num) a.den
def fOver (a b : Fr) : Fr := mkF (a.num * b.den) (a.den * b.num)
def powI (x : Int) (n : Nat) : Int := loop (fun _ r => r * x) n 1
def fPow (a : Fr) (n : Nat) : Fr := mkF (powI a.num n) (powI a.den n)
/-! ### polynomials -/
/-- the length without the last ones that are z -/
def trimLen {α : Type} (z : α → Bool) : List α → Nat
  | [] => 0
  | a :: l => match trimLen z l with
    | 0 => if z a = true then 0 else 1
    | k + 1 => k + 2
def trimBy {α : Type} (z : α → Bool) (l : List α) : List α := l.take (trimLen z l)
def zI (x : Int) : Bool := decide (x = 0)
def trim (l : List Int) : List Int := trimBy zI l
def content (l : List Int) : Int := loop (fun i d => gcdI d (l.getD i 0)) l.length 0
def mkP (cs : List Int) (d : Int) : Po :=
  let g := sgnd (gcdI (content (trim cs)) d) d
  ⟨(trim cs).map fun c => c.fdiv g, d.fdiv g⟩
def pConst (x : Fr) : Po := mkP [x.num] x.den
def pZ (p : Po) : Bool := decide (p.co.length = 0)
def pDeg (p : Po) : Int := (p.co.length : Int) - 1
def pLead (p : Po) : Fr := if p.co.length = 0 then mkF 0 1 else mkF (p.co.getD (p.co.length - 1) 0) p.den
def pad (l : List Int) (n : Nat) : List Int := l ++ List.replicate (n - l.length) 0
def pAdd (p q : Po) : Po :=
  let n := max p.co.length q.co.length
  mkP ((List.range n).map fun i => (pad p.co n).getD i 0 * q.den + (pad q.co n).getD i 0 * p.den) (p.den * q.den)
def pNeg (p : Po) : Po := mkP (p.co.map fun c => -c) p.den
def pSub (p q : Po) : Po := pAdd p (pNeg q)
def mulIn (a : Int) (i : Nat) (l : List Int) (n : Nat) (s : List Int) : List Int := loop (fun j s => s.set (i + j) (s.getD (i + j) 0 + a * l.getD j 0)) n s
def mulOut (k l : List Int) (n : Nat) (s : List Int) : List Int := loop (fun i s => mulIn (k.getD i 0) i l l.length s) n s
def mulL (k l : List Int) : List Int := mulOut k l k.length (List.replicate (k.length + l.length) 0)
def pMul (p q : Po) : Po := mkP (mulL p.co q.co) (p.den * q.den)
def horner (l : List Int) (x : Int) (n : Nat) : Int := loop (fun i t => t * x + l.getD (l.length - 1 - i) 0) n 0
def pAt (p : Po) (x : Int) : Fr := mkF (horner p.co x p.co.length) p.den
def pScaled (p : Po) (f : Fr) : Po := mkP (p.co.map fun c => c * f.num) (p.den * f.den)
def shIn (s : Int) (m n : Nat) (l : List Int) : List Int := loop (fun i l => l.set (m - 2 - i) (l.getD (m - 2 - i) 0 + s * l.getD (m - 2 - i + 1) 0)) n l
def shOut (s : Int) (m n : Nat) (l : List Int) : List Int := loop (fun i l => shIn s m (m - 1 - i) l) n l
def pShift (p : Po) (s : Int) : Po := mkP (shOut s p.co.length (p.co.length - 1) p.co) p.den
/-! ### in two variables; operators -/
def p0 : Po := mkP [] 1
def p1 : Po := mkP [1] 1
def mkQ (l : List Po) : Q2 := trimBy pZ l
def qInN (p : Po) : Q2 := mkQ [p]
def qLine (a b c : Int) : Q2 := mkQ [mkP [c, a] 1, mkP [b] 1]
def qDk (q : Q2) : Int := (q.length : Int) - 1
def qRow (q : Q2) (i : Nat) : Po := if i < q.length then q.getD i p0 else p0
def qAdd (a b : Q2) : Q2 := mkQ ((List.range (max a.length b.length)).map fun i => pAdd (qRow a i) (qRow b i))
def qNeg (a : Q2) : Q2 := mkQ (a.map pNeg)
def qSub (a b : Q2) : Q2 := qAdd a (qNeg b)
def qMulIn (a : Po) (i : Nat) (l : Q2) (n : Nat) (s : List Po) : List Po := loop (fun j s => s.set (i + j) (pAdd (s.getD (i + j) p0) (pMul a (l.getD j p0)))) n s
def qMulOut (k l : Q2) (n : Nat) (s : List Po) : List Po := loop (fun i s => qMulIn (k.getD i p0) i l l.length s) n s
def qMul (k l : Q2) : Q2 := mkQ (qMulOut k l k.length (List.replicate (k.length + l.length) p0))
def mvIn (s : Fr) (m n : Nat) (l : List Po) : List Po := loop (fun i l => l.set (m - 2 - i) (pAdd (l.getD (m - 2 - i) p0) (pScaled (l.getD (m - 2 - i + 1) p0) s))) n l
def mvOut (s : Fr) (m n : Nat) (l : List Po) : List Po := loop (fun i l => mvIn s m (m - 1 - i) l) n l
def qMoved (q : Q2) (a b : Int) : Q2 := mkQ (mvOut (mkF b 1) q.length (q.length - 1) (q.map fun r => pShift r a))
def q1 : Q2 := mkQ [p1]
def qPow (q : Q2) (n : Nat) : Q2 := loop (fun _ r => qMul r q) n q1
def qProdN (l : List Q2) (n : Nat) : Q2 := loop (fun i r => qMul r (l.getD i [])) n q1
def qProd (l : List Q2) : Q2 := qProdN l l.length
/-! ### division -/
structure Dst where
  rest : List Int
  quo : List Int
  scale : Int
def subIn (place : Nat) (top : Int) (q : List Int) (n : Nat) (r : List Int) : List Int := loop (fun i r => r.set (place + i) (r.getD (place + i) 0 - top * q.getD i 0)) n r
def dstep (q : List Int) (place : Nat) (s : Dst) : Dst :=
  let lead := q.getD (q.length - 1) 0
  let top := s.rest.getD (place + q.length - 1) 0
  let quo := s.quo.map fun x => lead * x
  ⟨subIn place top q q.length (s.rest.map fun x => lead * x), quo.set place (quo.getD place 0 + top), s.scale * lead⟩
/-- the number of turns -/
def dlen (p q : List Int) : Nat := p.length + 1 - q.length
def dloop (p q : List Int) (n : Nat) : Dst := loop (fun i s => dstep q (dlen p q - 1 - i) s) n ⟨p, List.replicate (dlen p q) 0, 1⟩
def divide (p q : Po) : Po × Po :=
  let s := dloop p.co q.co (dlen p.co q.co)
  (mkP (s.quo.map fun x => x * q.den) (s.scale * p.den), mkP s.rest (s.scale * p.den))
def pExact (p q : Po) : Po := (divide p q).1
def monic (p : Po) : Po := if pZ p = true then p else pScaled p (fOver (mkF 1 1) (pLead p))
def primitive (p : Po) : Po := if pZ p = true then p else mkP p.co (content p.co)
def gstep (s : Po × Po) : Po × Po := (s.2, primitive (divide s.1 s.2).2)
def gseq (s : Po × Po) (n : Nat) : Po × Po := loop (fun _ s => gstep s) n s
/-- the first turn at which the second is zero, of at most n -/
def gturns : Nat → Po × Po → Nat
  | 0, _ => 0
  | n + 1, s => if pZ s.2 = true then 0 else gturns n (gstep s) + 1
def gstart (p q : Po) : Po × Po := (primitive p, primitive q)
def gN (p q : Po) : Nat := gturns (p.co.length + q.co.length + 2) (gstart p q)
def cdiv (p q : Po) : Po := monic (gseq (gstart p q) (gN p q)).1
def cdivN (l : List Po) (n : Nat) : Po := loop (fun i r => cdiv r (l.getD i p0)) n p0
def cdivof (l : List Po) : Po := cdivN l l.length
end G
end
section
/-! Sizes: the bits of what the mirror computes. -/
namespace G
/-- the bits of an int, less one -/
def lg (x : Int) : Nat := x.natAbs.log2
theorem lt_pow (n : Nat) : n < 2 ^ (n.log2 + 1) := Nat.lt_log2_self
theorem log_le {n k : Nat} (h : n < 2 ^ (k + 1)) : n.log2 ≤ k := by
  by_cases h0 : n = 0
  · subst h0; rw [Nat.log2_zero]; exact Nat.zero_le _
  · exact Nat.le_of_lt_succ ((Nat.log2_lt h0).mpr h)
theorem lg_zero : lg 0 = 0 := by unfold lg; rw [Int.natAbs_zero, Nat.log2_zero]
theorem lg_one : lg 1 = 0 := by decide
theorem lg_neg (x : Int) : lg (-x) = lg x := by unfold lg; rw [Int.natAbs_neg]
theorem log_mono {m n : Nat} (h : m ≤ n) : m.log2 ≤ n.log2 := log_le (Nat.lt_of_le_of_lt h (lt_pow n))
theorem lg_mono {x y : Int} (h : x.natAbs ≤ y.natAbs) : lg x ≤ lg y := log_mono h
theorem lg_mul (x y : Int) : lg (x * y) ≤ lg x + lg y + 1 := by
  unfold lg
  rw [Int.natAbs_mul]
  refine log_le ?_
  have h := Nat.mul_lt_mul'' (lt_pow x.natAbs) (lt_pow y.natAbs)
  rw [← Nat.pow_add] at h
  rw [show x.natAbs.log2 + y.natAbs.log2 + 1 + 1 = x.natAbs.log2 + 1 + (y.natAbs.log2 + 1) by omega]
  exact h
theorem lg_add (x y : Int) : lg (x + y) ≤ max (lg x) (lg y) + 1 := by
  unfold lg
  refine log_le ?_
  have h1 := Nat.lt_of_lt_of_le (lt_pow x.natAbs) (Nat.pow_le_pow_right (by decide : 2 > 0) (show x.natAbs.log2 + 1 ≤ max x.natAbs.log2 y.natAbs.log2 + 1 by omega))
  have h2 := Nat.lt_of_lt_of_le (lt_pow y.natAbs) (Nat.pow_le_pow_right (by decide : 2 > 0) (show y.natAbs.log2 + 1 ≤ max x.natAbs.log2 y.natAbs.log2 + 1 by omega))
  have h3 := Int.natAbs_add_le x y
  rw [Nat.pow_succ]
  omega
theorem lg_sub (x y : Int) : lg (x - y) ≤ max (lg x) (lg y) + 1 := by
  rw [Int.sub_eq_add_neg, ← lg_neg y]
  exact lg_add x (-y)
theorem lg_addb {x y : Int} {a : Nat} (hx : lg x ≤ a) (hy : lg y ≤ a) : lg (x + y) ≤ a + 1 := Nat.le_trans (lg_add x y) (by omega)
theorem lg_subb {x y : Int} {a : Nat} (hx : lg x ≤ a) (hy : lg y ≤ a) : lg (x - y) ≤ a + 1 := Nat.le_trans (lg_sub x y) (by omega)
theorem lg_mulb {x y : Int} {a b : Nat} (hx : lg x ≤ a) (hy : lg y ≤ b) : lg (x * y) ≤ a + b + 1 := Nat.le_trans (lg_mul x y) (by omega)
/-! ### exact division by a divisor -/
theorem fdiv_nat {x g : Int} (h : g ∣ x) : (x.fdiv g).natAbs * g.natAbs = x.natAbs := by
  obtain ⟨c, rfl⟩ := h
  by_cases hg : g = 0
  · subst hg; simp
  · rw [Int.mul_fdiv_cancel_left c hg, Int.natAbs_mul, Nat.mul_comm]
theorem lg_fdiv {x g : Int} (h : g ∣ x) (hg : g ≠ 0) : lg (x.fdiv g) ≤ lg x := by
  refine lg_mono ?_
  rw [← fdiv_nat h]
  exact Nat.le_mul_of_pos_right _ (Int.natAbs_pos.mpr hg)
theorem fdiv_ne {x g : Int} (h : g ∣ x) (hx : x ≠ 0) : x.fdiv g ≠ 0 := fun z => by
  have e := fdiv_nat h
  rw [z, Int.natAbs_zero, Nat.zero_mul] at e
  exact hx (Int.natAbs_eq_zero.mp e.symm)
theorem gcdI_dvd_left (a b : Int) : gcdI a b ∣ a := Int.natAbs_dvd_natAbs.mp (show a.natAbs.gcd b.natAbs ∣ a.natAbs from Nat.gcd_dvd_left _ _)
theorem gcdI_dvd_right (a b : Int) : gcdI a b ∣ b := Int.natAbs_dvd_natAbs.mp (show a.natAbs.gcd b.natAbs ∣ b.natAbs from Nat.gcd_dvd_right _ _)
theorem gcdI_ne {a b : Int} (h : b ≠ 0) : gcdI a b ≠ 0 := by
  unfold gcdI
  have : 0 < a.natAbs.gcd b.natAbs := Nat.gcd_pos_of_pos_right _ (Int.natAbs_pos.mpr h)
  omega
theorem gcdI_nn (a b : Int) : 0 ≤ gcdI a b := Int.natCast_nonneg _
theorem sgnd_ne {g d : Int} (h : g ≠ 0) : sgnd g d ≠ 0 := by unfold sgnd; split <;> omega
theorem sgnd_dvd {g d x : Int} : sgnd g d ∣ x ↔ g ∣ x := by
  unfold sgnd
  split
  · exact Int.neg_dvd
  · exact Iff.rfl
/-- content -/
def contL (l : List Int) (d : Int) : Nat → Int := fun n => loop (fun i d => gcdI d (l.getD i 0)) n d
theorem contL_dvd (l : List Int) (d : Int) : ∀ n, contL l d n ∣ d ∧ ∀ i, i < n → contL l d n ∣ l.getD i 0
  | 0 => ⟨Int.dvd_refl _, fun i h => absurd h (by omega)⟩
  | n + 1 => by
    obtain ⟨h1, h2⟩ := contL_dvd l d n
    have e : contL l d (n + 1) = gcdI (contL l d n) (l.getD n 0) := rfl
    have g1 : contL l d (n + 1) ∣ contL l d n := by rw [e]; exact gcdI_dvd_left _ _
    refine ⟨Int.dvd_trans g1 h1, fun i hi => ?_⟩
    by_cases hin : i = n
    · subst hin; rw [e]; exact gcdI_dvd_right _ _
    · exact Int.dvd_trans g1 (h2 i (by omega))
theorem content_dvd {l : List Int} {c : Int} (h : c ∈ l) : content l ∣ c := by
  obtain ⟨i, hi, rfl⟩ := List.getElem_of_mem h
  have e := (contL_dvd l 0 l.length).2 i hi
  rw [List.getD_eq_getElem?_getD, List.getElem?_eq_getElem hi] at e
  exact e
theorem content_nn (l : List Int) : 0 ≤ content l := by
  unfold content
  cases hl : l.length with
  | zero => exact Int.le_refl 0
  | succ n => exact gcdI_nn _ _
/-! ### trimming -/
theorem trimLen_le {α : Type} (z : α → Bool) : ∀ l : List α, trimLen z l ≤ l.length
  | [] => Nat.le_refl _
  | a :: l => by
    have h := trimLen_le z l
    unfold trimLen
    split
    · split
      · exact Nat.zero_le _
      · rw [List.length_cons]; omega
    · rename_i k e
      rw [List.length_cons]; omega
theorem trimBy_sub {α : Type} {z : α → Bool} {l : List α} {x : α} (h : x ∈ trimBy z l) : x ∈ l := List.mem_of_mem_take h
theorem trimBy_len {α : Type} (z : α → Bool) (l : List α) : (trimBy z l).length = trimLen z l := by
  unfold trimBy
  rw [List.length_take]
  exact Nat.min_eq_left (trimLen_le z l)
theorem trimLen_out {α : Type} (z : α → Bool) : ∀ (l : List α) (i : Nat) (x : α), trimLen z l ≤ i → l[i]? = some x → z x = true
  | [], i, x, _, e => by simp at e
  | a :: l, i, x, h, e => by
    unfold trimLen at h
    split at h
    · rename_i h0
      split at h
      · rename_i hz
        cases i with
        | zero => simp at e; subst e; exact hz
        | succ i => exact trimLen_out z l i x (by omega) (by simpa using e)
      · cases i with
        | zero => omega
        | succ i => exact trimLen_out z l i x (by omega) (by simpa using e)
    · rename_i k h0
      cases i with
      | zero => omega
      | succ i => exact trimLen_out z l i x (by omega) (by simpa using e)
theorem trimLen_last {α : Type} (z : α → Bool) : ∀ (l : List α) (n : Nat), trimLen z l = n + 1 → ∃ x, l[n]? = some x ∧ z x = false
  | [], n, h => by cases h
  | a :: l, n, h => by
    unfold trimLen at h
    split at h
    · rename_i h0
      split at h
      · cases h
      · rename_i hz
        have : n = 0 := by omega
        subst this
        exact ⟨a, rfl, by simpa using hz⟩
    · rename_i k h0
      obtain ⟨x, e, hx⟩ := trimLen_last z l k h0
      have : n = k + 1 := by omega
      subst this
      exact ⟨x, by simpa using e, hx⟩
/-! ### sizes of fractions -/
def SzF (b : Nat) (f : Fr) : Prop := f.den ≠ 0 ∧ lg f.num ≤ b ∧ lg f.den ≤ b
theorem SzF.mono {a b : Nat} {f : Fr} (h : SzF a f) (l : a ≤ b) : SzF b f := ⟨h.1, Nat.le_trans h.2.1 l, Nat.le_trans h.2.2 l⟩
theorem sz_mkF {n d : Int} {b : Nat} (hd : d ≠ 0) (h1 : lg n ≤ b) (h2 : lg d ≤ b) : SzF b (mkF n d) := by
  have g1 : sgnd (gcdI n d) d ∣ n := sgnd_dvd.mpr (gcdI_dvd_left n d)
  have g2 : sgnd (gcdI n d) d ∣ d := sgnd_dvd.mpr (gcdI_dvd_right n d)
  have g0 : sgnd (gcdI n d) d ≠ 0 := sgnd_ne (gcdI_ne hd)
  exact ⟨fdiv_ne g2 hd, Nat.le_trans (lg_fdiv g1 g0) h1, Nat.le_trans (lg_fdiv g2 g0) h2⟩
section
variable {a b : Nat} {x y : Fr}
theorem mul_ne {x y : Int} (hx : x ≠ 0) (hy : y ≠ 0) : x * y ≠ 0 := Int.mul_ne_zero hx hy
theorem sz_fAdd (hx : SzF a x) (hy : SzF b y) : SzF (a + b + 2) (fAdd x y) :=
  sz_mkF (mul_ne hx.1 hy.1) (lg_addb (lg_mulb hx.2.1 hy.2.2) (Nat.le_trans (lg_mulb hy.2.1 hx.2.2) (by omega))) (Nat.le_trans (lg_mulb hx.2.2 hy.2.2) (by omega))
theorem sz_fSub (hx : SzF a x) (hy : SzF b y) : SzF (a + b + 2) (fSub x y) :=
  sz_mkF (mul_ne hx.1 hy.1) (lg_subb (lg_mulb hx.2.1 hy.2.2) (Nat.le_trans (lg_mulb hy.2.1 hx.2.2) (by omega))) (Nat.le_trans (lg_mulb hx.2.2 hy.2.2) (by omega))
theorem sz_fMul (hx : SzF a x) (hy : SzF b y) : SzF (a + b + 1) (fMul x y) := sz_mkF (mul_ne hx.1 hy.1) (lg_mulb hx.2.1 hy.2.1) (lg_mulb hx.2.2 hy.2.2)
theorem sz_fNeg (hx : SzF a x) : SzF a (fNeg x) := sz_mkF hx.1 (by rw [lg_neg]; exact hx.2.1) hx.2.2
theorem sz_fOver (hx : SzF a x) (hy : SzF b y) (h0 : y.num ≠ 0) : SzF (a + b + 1) (fOver x y) := sz_mkF (mul_ne hx.1 h0) (lg_mulb hx.2.1 hy.2.2) (lg_mulb hx.2.2 hy.2.1)
theorem lg_powI {z : Int} (hz : lg z ≤ a) : ∀ n, lg (powI z n) ≤ n * (a + 1)
  | 0 => by rw [show powI z 0 = 1 from rfl, lg_one]; exact Nat.zero_le _
  | n + 1 => by
    have ih := lg_powI hz n
    rw [show powI z (n + 1) = powI z n * z from rfl, Nat.succ_mul]
    exact Nat.le_trans (lg_mulb ih hz) (by omega)
theorem powI_ne {z : Int} (hz : z ≠ 0) : ∀ n, powI z n ≠ 0
  | 0 => by rw [show powI z 0 = 1 from rfl]; decide
  | n + 1 => mul_ne (powI_ne hz n) hz
theorem sz_fPow (hx : SzF a x) (n : Nat) : SzF (n * (a + 1)) (fPow x n) := sz_mkF (powI_ne hx.1 n) (lg_powI hx.2.1 n) (lg_powI hx.2.2 n)
end
/-! ### sizes of polynomials -/
def Sz (b : Nat) (p : Po) : Prop := p.den ≠ 0 ∧ lg p.den ≤ b ∧ ∀ c ∈ p.co, lg c ≤ b
theorem Sz.mono {a b : Nat} {p : Po} (h : Sz a p) (l : a ≤ b) : Sz b p := ⟨h.1, Nat.le_trans h.2.1 l, fun c hc => Nat.le_trans (h.2.2 c hc) l⟩
theorem Sz.getD {b : Nat} {p : Po} (h : Sz b p) (i : Nat) : lg (p.co.getD i 0) ≤ b := by
  rw [List.getD_eq_getElem?_getD]
  cases e : p.co[i]? with
  | none => show lg 0 ≤ b; rw [lg_zero]; exact Nat.zero_le _
  | some c => exact h.2.2 c (List.mem_of_getElem? e)
theorem sz_mkP {cs : List Int} {d : Int} {b : Nat} (hd : d ≠ 0) (h1 : ∀ c ∈ cs, lg c ≤ b) (h2 : lg d ≤ b) : Sz b (mkP cs d) := by
  have g0 : sgnd (gcdI (content (trim cs)) d) d ≠ 0 := sgnd_ne (gcdI_ne hd)
  have g2 : sgnd (gcdI (content (trim cs)) d) d ∣ d := sgnd_dvd.mpr (gcdI_dvd_right _ d)
  refine ⟨fdiv_ne g2 hd, Nat.le_trans (lg_fdiv g2 g0) h2, fun c hc => ?_⟩
  obtain ⟨c', hc', rfl⟩ := List.mem_map.mp hc
  have g1 : sgnd (gcdI (content (trim cs)) d) d ∣ c' := sgnd_dvd.mpr (Int.dvd_trans (gcdI_dvd_left _ d) (content_dvd hc'))
  exact Nat.le_trans (lg_fdiv g1 g0) (h1 c' (trimBy_sub hc'))
theorem len_mkP (cs : List Int) (d : Int) : (mkP cs d).co.length = trimLen zI cs := by
  show ((trim cs).map _).length = _
  rw [List.length_map]
  exact trimBy_len zI cs
theorem len_mkP_le (cs : List Int) (d : Int) : (mkP cs d).co.length ≤ cs.length := by rw [len_mkP]; exact trimLen_le _ _
section
variable {a b : Nat} {p q : Po}
theorem lg_pad {l : List Int} {n : Nat} (h : ∀ c ∈ l, lg c ≤ a) (i : Nat) : lg ((pad l n).getD i 0) ≤ a := by
  rw [List.getD_eq_getElem?_getD]
  cases e : (pad l n)[i]? with
  | none => show lg 0 ≤ a; rw [lg_zero]; exact Nat.zero_le _
  | some c =>
    rcases List.mem_append.mp (List.mem_of_getElem? e) with hc | hc
    · exact h c hc
    · rw [List.eq_of_mem_replicate hc]; show lg 0 ≤ a; rw [lg_zero]; exact Nat.zero_le _
theorem sz_pAdd (hp : Sz a p) (hq : Sz b q) : Sz (a + b + 2) (pAdd p q) := by
  refine sz_mkP (mul_ne hp.1 hq.1) (fun c hc => ?_) (Nat.le_trans (lg_mulb hp.2.1 hq.2.1) (by omega))
  obtain ⟨i, _, rfl⟩ := List.mem_map.mp hc
  exact lg_addb (lg_mulb (lg_pad hp.2.2 i) hq.2.1) (Nat.le_trans (lg_mulb (lg_pad hq.2.2 i) hp.2.1) (by omega))
theorem sz_pNeg (hp : Sz a p) : Sz a (pNeg p) := by
  refine sz_mkP hp.1 (fun c hc => ?_) hp.2.1
  obtain ⟨c', h', rfl⟩ := List.mem_map.mp hc
  rw [lg_neg]; exact hp.2.2 c' h'
theorem sz_pSub (hp : Sz a p) (hq : Sz b q) : Sz (a + b + 2) (pSub p q) := sz_pAdd hp (sz_pNeg hq)
theorem sz_pScaled {f : Fr} (hp : Sz a p) (hf : SzF b f) : Sz (a + b + 1) (pScaled p f) := by
  refine sz_mkP (mul_ne hp.1 hf.1) (fun c hc => ?_) (lg_mulb hp.2.1 hf.2.2)
  obtain ⟨c', h', rfl⟩ := List.mem_map.mp hc
  exact lg_mulb (hp.2.2 c' h') hf.2.1
theorem sz_pConst {f : Fr} (hf : SzF a f) : Sz a (pConst f) := sz_mkP hf.1 (fun c hc => by rw [List.mem_singleton.mp hc]; exact hf.2.1) hf.2.2
theorem sz_pLead (hp : Sz a p) : SzF a (pLead p) := by
  unfold pLead
  split
  · exact sz_mkF (by decide) (by rw [lg_zero]; exact Nat.zero_le _) (by rw [lg_one]; exact Nat.zero_le _)
  · exact sz_mkF hp.1 (hp.getD _) hp.2.1
/-- an entry of a list, whatever its place -/
theorem lg_getD {l : List Int} (h : ∀ c ∈ l, lg c ≤ a) (i : Nat) : lg (l.getD i 0) ≤ a := by
  rw [List.getD_eq_getElem?_getD]
  cases e : l[i]? with
  | none => show lg 0 ≤ a; rw [lg_zero]; exact Nat.zero_le _
  | some c => exact h c (List.mem_of_getElem? e)
theorem all_set {l : List Int} {i : Nat} {x : Int} (h : ∀ c ∈ l, lg c ≤ a) (hx : lg x ≤ a) : ∀ c ∈ l.set i x, lg c ≤ a := fun c hc => by
  rcases List.mem_or_eq_of_mem_set hc with h' | h'
  · exact h c h'
  · rw [h']; exact hx
/-- products: the turns of the inner loop -/
theorem mulIn_len (a : Int) (i : Nat) (l : List Int) : ∀ n s, (mulIn a i l n s).length = s.length
  | 0, _ => rfl
  | n + 1, s => by
    show (List.set _ _ _).length = _
    rw [List.length_set]; exact mulIn_len a i l n s
theorem mulOut_len (k l : List Int) : ∀ n s, (mulOut k l n s).length = s.length
  | 0, _ => rfl
  | n + 1, s => by
    show (mulIn _ _ _ _ _).length = _
    rw [mulIn_len]; exact mulOut_len k l n s
theorem getD_set {l : List Int} {i j : Nat} {x : Int} : (l.set i x).getD j 0 = if i = j then (if j < l.length then x else 0) else l.getD j 0 := by
  rw [List.getD_eq_getElem?_getD, List.getD_eq_getElem?_getD]
  by_cases h : i = j
  · subst h
    rw [if_pos rfl]
    by_cases hl : i < l.length
    · rw [if_pos hl, List.getElem?_set_self hl]; rfl
    · rw [if_neg hl, List.getElem?_eq_none (by rw [List.length_set]; omega)]; rfl
  · rw [if_neg h, List.getElem?_set_ne h]
theorem mulIn_lg {u : Int} {l s : List Int} {i c : Nat} (hu : lg u ≤ a) (hl : ∀ x ∈ l, lg x ≤ b) (hs : ∀ j, lg (s.getD j 0) ≤ c) (hc : a + b + 1 ≤ c) :
    ∀ n j, lg ((mulIn u i l n s).getD j 0) ≤ (if j < i + n then c + 1 else c)
  | 0, j => Nat.le_trans (hs j) (by split <;> omega)
  | n + 1, j => by
    have ih := mulIn_lg (i := i) hu hl hs hc n
    show lg ((List.set _ _ _).getD j 0) ≤ _
    rw [getD_set]
    by_cases h : i + n = j
    · rw [if_pos h, if_pos (show j < i + (n + 1) by omega)]
      split
      · have h1 := ih (i + n)
        rw [if_neg (by omega)] at h1
        exact lg_addb h1 (Nat.le_trans (lg_mulb hu (lg_getD hl n)) (by omega))
      · rw [lg_zero]; exact Nat.zero_le _
    · rw [if_neg h]
      refine Nat.le_trans (ih j) ?_
      by_cases h2 : j < i + n
      · rw [if_pos h2, if_pos (by omega)]; exact Nat.le_refl _
      · rw [if_neg h2]; split <;> omega
theorem mulOut_lg {k l s : List Int} {c : Nat} (hk : ∀ x ∈ k, lg x ≤ a) (hl : ∀ x ∈ l, lg x ≤ b) (hs : ∀ j, lg (s.getD j 0) ≤ c) (hc : a + b + 1 ≤ c) : ∀ n j, lg ((mulOut k l n s).getD j 0) ≤ c + n
  | 0, j => hs j
  | n + 1, j => by
    have ih := mulOut_lg hk hl hs hc n
    refine Nat.le_trans (mulIn_lg (i := n) (lg_getD hk n) hl ih (show a + b + 1 ≤ c + n by omega) l.length j) ?_
    split <;> omega
theorem mem_of_getD {l : List Int} (h : ∀ j, lg (l.getD j 0) ≤ a) : ∀ c ∈ l, lg c ≤ a := fun c hc => by
  obtain ⟨i, hi, rfl⟩ := List.getElem_of_mem hc
  have z := h i
  rw [List.getD_eq_getElem?_getD, List.getElem?_eq_getElem hi] at z
  exact z
theorem rep_getD (n j : Nat) : (List.replicate n (0 : Int)).getD j 0 = 0 := by
  rw [List.getD_eq_getElem?_getD, List.getElem?_replicate]
  split <;> rfl
theorem mulL_lg {k l : List Int} (hk : ∀ x ∈ k, lg x ≤ a) (hl : ∀ x ∈ l, lg x ≤ b) : ∀ c ∈ mulL k l, lg c ≤ a + b + 1 + k.length :=
  mem_of_getD fun j => mulOut_lg hk hl (fun j => by rw [rep_getD, lg_zero]; exact Nat.zero_le _) (Nat.le_refl _) k.length j
theorem sz_pMul (hp : Sz a p) (hq : Sz b q) : Sz (a + b + 1 + p.co.length) (pMul p q) :=
  sz_mkP (mul_ne hp.1 hq.1) (mulL_lg hp.2.2 hq.2.2) (Nat.le_trans (lg_mulb hp.2.1 hq.2.1) (by omega))
/-- values -/
theorem horner_lg {l : List Int} {x : Int} (hl : ∀ c ∈ l, lg c ≤ a) (hx : lg x ≤ b) : ∀ n, lg (horner l x n) ≤ a + n * (b + 2)
  | 0 => by show lg 0 ≤ _; rw [lg_zero]; exact Nat.zero_le _
  | n + 1 => by
    have ih := horner_lg hl hx n
    show lg (horner l x n * x + _) ≤ _
    rw [Nat.succ_mul]
    exact Nat.le_trans (lg_addb (a := a + n * (b + 2) + b + 1) (lg_mulb ih hx) (Nat.le_trans (lg_getD hl _) (by omega))) (by omega)
theorem sz_pAt {x : Int} (hp : Sz a p) (hx : lg x ≤ b) : SzF (a + p.co.length * (b + 2)) (pAt p x) := sz_mkF hp.1 (horner_lg hp.2.2 hx _) (Nat.le_trans hp.2.1 (by omega))
end
end G
end
section
/-! Sizes of shifts, of polynomials in two variables; whole polynomials. -/
namespace G
section
variable {a b c L La Lb M Ma Mb : Nat} {p q : Po}
/-! ### shifts of lists -/
theorem lg_of_getD {l : List Int} (h : ∀ j, lg (l.getD j 0) ≤ a) : ∀ c ∈ l, lg c ≤ a := mem_of_getD h
theorem shIn_len (s : Int) (m : Nat) (l : List Int) : ∀ n, (shIn s m n l).length = l.length
  | 0 => rfl
  | n + 1 => by
    show (List.set _ _ _).length = _
    rw [List.length_set]; exact shIn_len s m l n
theorem shOut_len (s : Int) (m : Nat) (l : List Int) : ∀ n, (shOut s m n l).length = l.length
  | 0 => rfl
  | n + 1 => by
    show (shIn _ _ _ _).length = _
    rw [shIn_len]; exact shOut_len s m l n
theorem shIn_lg {s : Int} {l : List Int} (m : Nat) (hs : lg s ≤ b) (hl : ∀ j, lg (l.getD j 0) ≤ a) : ∀ n j, lg ((shIn s m n l).getD j 0) ≤ a + n * (b + 2)
  | 0, j => by simpa [shIn, loop] using hl j
  | n + 1, j => by
    have ih := shIn_lg m hs hl n
    have e : (n + 1) * (b + 2) = n * (b + 2) + (b + 2) := Nat.succ_mul _ _
    show lg ((List.set _ _ _).getD j 0) ≤ _
    rw [getD_set]
    split
    · split
      · refine Nat.le_trans (lg_addb (a := a + n * (b + 2) + b + 1) (Nat.le_trans (ih _) (by omega)) (Nat.le_trans (lg_mulb hs (ih _)) (by omega))) (by omega)
      · rw [lg_zero]; exact Nat.zero_le _
    · exact Nat.le_trans (ih j) (by omega)
theorem shOut_lg {s : Int} {l : List Int} (m : Nat) (hs : lg s ≤ b) (hl : ∀ j, lg (l.getD j 0) ≤ a) : ∀ n j, lg ((shOut s m n l).getD j 0) ≤ a + n * (m * (b + 2))
  | 0, j => by simpa [shOut, loop] using hl j
  | n + 1, j => by
    have ih := shOut_lg m hs hl n
    refine Nat.le_trans (shIn_lg (l := shOut s m n l) m hs ih (m - 1 - n) j) ?_
    have h1 : (m - 1 - n) * (b + 2) ≤ m * (b + 2) := Nat.mul_le_mul_right _ (by omega)
    have e : (n + 1) * (m * (b + 2)) = n * (m * (b + 2)) + m * (b + 2) := Nat.succ_mul _ _
    omega
theorem sz_pShift {s : Int} (hp : Sz a p) (hs : lg s ≤ b) : Sz (a + p.co.length * (p.co.length * (b + 2))) (pShift p s) := by
  refine sz_mkP hp.1 (lg_of_getD fun j => ?_) (Nat.le_trans hp.2.1 (Nat.le_add_right _ _))
  refine Nat.le_trans (shOut_lg p.co.length hs (fun j => lg_getD hp.2.2 j) (p.co.length - 1) j) ?_
  have := Nat.mul_le_mul_right (p.co.length * (b + 2)) (Nat.sub_le p.co.length 1)
  omega
theorem len_pShift (p : Po) (s : Int) : (pShift p s).co.length ≤ p.co.length := Nat.le_trans (len_mkP_le _ _) (by rw [shOut_len]; exact Nat.le_refl _)
/-! ### sizes with lengths -/
def ZP (a L : Nat) (p : Po) : Prop := Sz a p ∧ p.co.length ≤ L
theorem ZP.mono (h : ZP a L p) (h1 : a ≤ b) (h2 : L ≤ M) : ZP b M p := ⟨h.1.mono h1, Nat.le_trans h.2 h2⟩
theorem zp_p0 : ZP 0 0 p0 := by
  unfold ZP Sz
  decide
theorem zp_p1 : ZP 0 1 p1 := by
  unfold ZP Sz
  decide
theorem zp_mkP {cs : List Int} {d : Int} (hd : d ≠ 0) (h1 : ∀ c ∈ cs, lg c ≤ b) (h2 : lg d ≤ b) (h3 : cs.length ≤ L) : ZP b L (mkP cs d) := ⟨sz_mkP hd h1 h2, Nat.le_trans (len_mkP_le _ _) h3⟩
theorem zp_add (hp : ZP a La p) (hq : ZP b Lb q) : ZP (a + b + 2) (max La Lb) (pAdd p q) :=
  ⟨sz_pAdd hp.1 hq.1, Nat.le_trans (len_mkP_le _ _) (by rw [List.length_map, List.length_range]; have := hp.2; have := hq.2; omega)⟩
theorem zp_mul (hp : ZP a La p) (hq : ZP b Lb q) : ZP (a + b + 1 + La) (La + Lb) (pMul p q) :=
  ⟨(sz_pMul hp.1 hq.1).mono (by have := hp.2; omega), Nat.le_trans (len_mkP_le _ _) (by unfold mulL; rw [mulOut_len, List.length_replicate]; have := hp.2; have := hq.2; omega)⟩
theorem zp_neg (hp : ZP a L p) : ZP a L (pNeg p) := ⟨sz_pNeg hp.1, Nat.le_trans (len_mkP_le _ _) (by rw [List.length_map]; exact hp.2)⟩
theorem zp_scaled {f : Fr} (hp : ZP a L p) (hf : SzF b f) : ZP (a + b + 1) L (pScaled p f) := ⟨sz_pScaled hp.1 hf, Nat.le_trans (len_mkP_le _ _) (by rw [List.length_map]; exact hp.2)⟩
theorem zp_getD {l : List Po} (h : ∀ p ∈ l, ZP a L p) (i : Nat) : ZP a L (l.getD i p0) := by
  rw [List.getD_eq_getElem?_getD]
  cases e : l[i]? with
  | none => exact zp_p0.mono (Nat.zero_le _) (Nat.zero_le _)
  | some x => exact h x (List.mem_of_getElem? e)
theorem zp_all {l : List Po} (h : ∀ i, ZP a L (l.getD i p0)) : ∀ p ∈ l, ZP a L p := fun p hp => by
  obtain ⟨i, hi, rfl⟩ := List.getElem_of_mem hp
  have z := h i
  rw [List.getD_eq_getElem?_getD, List.getElem?_eq_getElem hi] at z
  exact z
theorem getD_setP {l : List Po} {i j : Nat} {x : Po} : (l.set i x).getD j p0 = if i = j then (if j < l.length then x else p0) else l.getD j p0 := by
  rw [List.getD_eq_getElem?_getD, List.getD_eq_getElem?_getD]
  by_cases h : i = j
  · subst h
    rw [if_pos rfl]
    by_cases hl : i < l.length
    · rw [if_pos hl, List.getElem?_set_self hl]; rfl
    · rw [if_neg hl, List.getElem?_eq_none (by rw [List.length_set]; omega)]; rfl
  · rw [if_neg h, List.getElem?_set_ne h]
/-! ### two variables -/
def ZQ (a L M : Nat) (q : Q2) : Prop := q.length ≤ M ∧ ∀ p ∈ q, ZP a L p
theorem ZQ.mono {a' L' M' : Nat} {q : Q2} (h : ZQ a L M q) (h1 : a ≤ a') (h2 : L ≤ L') (h3 : M ≤ M') : ZQ a' L' M' q := ⟨Nat.le_trans h.1 h3, fun p hp => (h.2 p hp).mono h1 h2⟩
theorem ZQ.get {q : Q2} (h : ZQ a L M q) (i : Nat) : ZP a L (q.getD i p0) := zp_getD h.2 i
theorem zq_mkQ {l : List Po} (h1 : l.length ≤ M) (h2 : ∀ p ∈ l, ZP a L p) : ZQ a L M (mkQ l) := by
  refine ⟨Nat.le_trans ?_ h1, fun p hp => h2 p (trimBy_sub hp)⟩
  unfold mkQ
  rw [trimBy_len]
  exact trimLen_le _ _
theorem zp_qRow {q : Q2} (h : ZQ a L M q) (i : Nat) : ZP a L (qRow q i) := by
  unfold qRow
  split
  · exact h.get i
  · exact zp_p0.mono (Nat.zero_le _) (Nat.zero_le _)
theorem zq_inN (h : ZP a L p) : ZQ a L 1 (qInN p) := zq_mkQ (by simp) fun x hx => by rw [List.mem_singleton.mp hx]; exact h
theorem zq_line {x y z : Int} (hx : lg x ≤ a) (hy : lg y ≤ a) (hz : lg z ≤ a) : ZQ a 2 2 (qLine x y z) := by
  refine zq_mkQ (by simp) fun p hp => ?_
  have h1 : lg 1 ≤ a := by rw [lg_one]; exact Nat.zero_le _
  rcases List.mem_cons.mp hp with rfl | hp
  · refine zp_mkP (by decide) (fun c hc => ?_) h1 (by simp)
    rcases List.mem_cons.mp hc with rfl | hc
    · exact hz
    · rw [List.mem_singleton.mp hc]; exact hx
  · rw [List.mem_singleton.mp hp]
    exact zp_mkP (by decide) (fun c hc => by rw [List.mem_singleton.mp hc]; exact hy) h1 (by simp)
theorem zq_add {k l : Q2} (hk : ZQ a La Ma k) (hl : ZQ b Lb Mb l) : ZQ (a + b + 2) (max La Lb) (max Ma Mb) (qAdd k l) := by
  refine zq_mkQ ?_ fun p hp => ?_
  · rw [List.length_map, List.length_range]; have := hk.1; have := hl.1; omega
  · obtain ⟨i, _, rfl⟩ := List.mem_map.mp hp
    exact zp_add (zp_qRow hk i) (zp_qRow hl i)
theorem zq_neg {k : Q2} (hk : ZQ a La Ma k) : ZQ a La Ma (qNeg k) := by
  refine zq_mkQ ?_ fun p hp => ?_
  · rw [List.length_map]; exact hk.1
  · obtain ⟨x, hx, rfl⟩ := List.mem_map.mp hp
    exact zp_neg (hk.2 x hx)
theorem zq_sub {k l : Q2} (hk : ZQ a La Ma k) (hl : ZQ b Lb Mb l) : ZQ (a + b + 2) (max La Lb) (max Ma Mb) (qSub k l) := zq_add hk (zq_neg hl)
theorem qMulIn_len (u : Po) (i : Nat) (l : Q2) (s : List Po) : ∀ n, (qMulIn u i l n s).length = s.length
  | 0 => rfl
  | n + 1 => by
    show (List.set _ _ _).length = _
    rw [List.length_set]; exact qMulIn_len u i l s n
theorem qMulOut_len (k l : Q2) (s : List Po) : ∀ n, (qMulOut k l n s).length = s.length
  | 0 => rfl
  | n + 1 => by
    show (qMulIn _ _ _ _ _).length = _
    rw [qMulIn_len]; exact qMulOut_len k l s n
theorem zq_mulIn {u : Po} {l : Q2} {s : List Po} {i : Nat} (hu : ZP a La u) (hl : ∀ p ∈ l, ZP b Lb p) (hs : ∀ j, ZP c (La + Lb) (s.getD j p0)) :
    ∀ n j, ZP (if j < i + n then c + (a + b + La + 3) else c) (La + Lb) ((qMulIn u i l n s).getD j p0)
  | 0, j => (hs j).mono (by split <;> omega) (Nat.le_refl _)
  | n + 1, j => by
    have ih := zq_mulIn (i := i) hu hl hs n
    show ZP _ _ ((List.set _ _ _).getD j p0)
    rw [getD_setP]
    by_cases h : i + n = j
    · rw [if_pos h, if_pos (show j < i + (n + 1) by omega)]
      split
      · have h1 := ih (i + n)
        rw [if_neg (by omega)] at h1
        exact (zp_add h1 (zp_mul hu (zp_getD hl n))).mono (by omega) (by omega)
      · exact zp_p0.mono (Nat.zero_le _) (Nat.zero_le _)
    · rw [if_neg h]
      refine (ih j).mono ?_ (Nat.le_refl _)
      by_cases h2 : j < i + n
      · rw [if_pos h2, if_pos (by omega)]; exact Nat.le_refl _
      · rw [if_neg h2]; split <;> omega
theorem zq_mulOut {k l : Q2} {s : List Po} (hk : ∀ p ∈ k, ZP a La p) (hl : ∀ p ∈ l, ZP b Lb p) (hs : ∀ j, ZP 0 (La + Lb) (s.getD j p0)) : ∀ n j, ZP (n * (a + b + La + 3)) (La + Lb) ((qMulOut k l n s).getD j p0)
  | 0, j => (hs j).mono (Nat.zero_le _) (Nat.le_refl _)
  | n + 1, j => by
    have ih := zq_mulOut hk hl hs n
    have e : (n + 1) * (a + b + La + 3) = n * (a + b + La + 3) + (a + b + La + 3) := Nat.succ_mul _ _
    refine (zq_mulIn (i := n) (zp_getD hk n) hl ih l.length j).mono ?_ (Nat.le_refl _)
    split <;> omega
theorem rep_getDP (n j : Nat) : (List.replicate n p0).getD j p0 = p0 := by
  rw [List.getD_eq_getElem?_getD, List.getElem?_replicate]
  split <;> rfl
theorem zq_mul {k l : Q2} (hk : ZQ a La Ma k) (hl : ZQ b Lb Mb l) : ZQ (Ma * (a + b + La + 3)) (La + Lb) (Ma + Mb) (qMul k l) := by
  have hk1 := hk.1
  have hl1 := hl.1
  refine zq_mkQ ?_ (zp_all fun j => ?_)
  · rw [qMulOut_len, List.length_replicate]; omega
  · refine (zq_mulOut hk.2 hl.2 (fun j => by rw [rep_getDP]; exact zp_p0.mono (Nat.zero_le _) (Nat.zero_le _)) k.length j).mono (Nat.mul_le_mul_right _ hk1) (Nat.le_refl _)
/-! ### whole polynomials -/
def WP (a L : Nat) (p : Po) : Prop := p.den = 1 ∧ (∀ c ∈ p.co, lg c ≤ a) ∧ p.co.length ≤ L
theorem WP.z (h : WP a L p) : ZP a L p := ⟨⟨by rw [h.1]; decide, by rw [h.1, lg_one]; exact Nat.zero_le _, h.2.1⟩, h.2.2⟩
theorem WP.mono (h : WP a L p) (h1 : a ≤ b) (h2 : L ≤ M) : WP b M p := ⟨h.1, fun c hc => Nat.le_trans (h.2.1 c hc) h1, Nat.le_trans h.2.2 h2⟩
theorem gcdI_one (x : Int) : gcdI x 1 = 1 := by unfold gcdI; rw [show (1 : Int).natAbs = 1 from rfl, Nat.gcd_one_right]; rfl
theorem mkP_one (cs : List Int) : mkP cs 1 = ⟨trim cs, 1⟩ := by
  unfold mkP
  rw [gcdI_one]
  have e : sgnd 1 1 = 1 := by decide
  rw [e]
  show Po.mk ((trim cs).map fun c => c.fdiv 1) (Int.fdiv 1 1) = _
  congr 1
  rw [List.map_congr_left (g := id) (fun c _ => Int.fdiv_one c), List.map_id]
theorem wp_mkP {cs : List Int} (h : ∀ c ∈ cs, lg c ≤ a) (hl : cs.length ≤ L) : WP a L (mkP cs 1) := by
  rw [mkP_one]
  refine ⟨rfl, fun c hc => h c (trimBy_sub hc), ?_⟩
  show (trim cs).length ≤ L
  unfold trim
  rw [trimBy_len]
  exact Nat.le_trans (trimLen_le _ _) hl
theorem lg_mul1 (x : Int) : lg (x * 1) = lg x := by rw [Int.mul_one]
theorem wp_add (hp : WP a La p) (hq : WP b Lb q) : WP (max a b + 1) (max La Lb) (pAdd p q) := by
  unfold pAdd
  rw [hp.1, hq.1]
  refine wp_mkP (fun c hc => ?_) ?_
  · obtain ⟨i, _, rfl⟩ := List.mem_map.mp hc
    refine Nat.le_trans (lg_add _ _) ?_
    rw [Int.mul_one, Int.mul_one]
    have h1 := lg_pad (n := max p.co.length q.co.length) hp.2.1 i
    have h2 := lg_pad (n := max p.co.length q.co.length) hq.2.1 i
    omega
  · rw [List.length_map, List.length_range]
    have := hp.2.2
    have := hq.2.2
    omega
theorem wp_neg (hp : WP a L p) : WP a L (pNeg p) := by
  unfold pNeg
  rw [hp.1]
  refine wp_mkP (fun c hc => ?_) (by rw [List.length_map]; exact hp.2.2)
  obtain ⟨c', h', rfl⟩ := List.mem_map.mp hc
  rw [lg_neg]; exact hp.2.1 c' h'
theorem wp_mul (hp : WP a La p) (hq : WP b Lb q) : WP (a + b + 1 + La) (La + Lb) (pMul p q) := by
  unfold pMul
  rw [hp.1, hq.1]
  refine wp_mkP (fun c hc => Nat.le_trans (mulL_lg hp.2.1 hq.2.1 c hc) (by have := hp.2.2; omega)) ?_
  unfold mulL
  rw [mulOut_len, List.length_replicate]
  have := hp.2.2
  have := hq.2.2
  omega
theorem wp_scaled {x : Int} (hp : WP a L p) (hx : lg x ≤ b) : WP (a + b + 1) L (pScaled p (mkF x 1)) := by
  have e : mkF x 1 = ⟨x, 1⟩ := by
    unfold mkF
    rw [gcdI_one]
    have e : sgnd 1 1 = 1 := by decide
    rw [e, Int.fdiv_one]
    rfl
  unfold pScaled
  rw [e, hp.1]
  refine wp_mkP (fun c hc => ?_) (by rw [List.length_map]; exact hp.2.2)
  obtain ⟨c', h', rfl⟩ := List.mem_map.mp hc
  exact lg_mulb (hp.2.1 c' h') hx
theorem wp_shift {s : Int} (hp : WP a L p) (hs : lg s ≤ b) : WP (a + L * (L * (b + 2))) L (pShift p s) := by
  unfold pShift
  rw [hp.1]
  refine wp_mkP (lg_of_getD fun j => ?_) (by rw [shOut_len]; exact hp.2.2)
  refine Nat.le_trans (shOut_lg p.co.length hs (fun j => lg_getD hp.2.1 j) (p.co.length - 1) j) ?_
  have h0 := hp.2.2
  have h1 : (p.co.length - 1) * (p.co.length * (b + 2)) ≤ L * (L * (b + 2)) := Nat.mul_le_mul (by omega) (Nat.mul_le_mul_right _ h0)
  omega
theorem wp_p0 : WP 0 0 p0 := by unfold WP; decide
theorem wp_p1 : WP 0 1 p1 := by unfold WP; decide
theorem wp_getD {l : List Po} (h : ∀ p ∈ l, WP a L p) (i : Nat) : WP a L (l.getD i p0) := by
  rw [List.getD_eq_getElem?_getD]
  cases e : l[i]? with
  | none => exact wp_p0.mono (Nat.zero_le _) (Nat.zero_le _)
  | some x => exact h x (List.mem_of_getElem? e)
theorem wp_all {l : List Po} (h : ∀ i, WP a L (l.getD i p0)) : ∀ p ∈ l, WP a L p := fun p hp => by
  obtain ⟨i, hi, rfl⟩ := List.getElem_of_mem hp
  have z := h i
  rw [List.getD_eq_getElem?_getD, List.getElem?_eq_getElem hi] at z
  exact z
def WQ (a L M : Nat) (q : Q2) : Prop := q.length ≤ M ∧ ∀ p ∈ q, WP a L p
theorem WQ.z {q : Q2} (h : WQ a L M q) : ZQ a L M q := ⟨h.1, fun p hp => (h.2 p hp).z⟩
theorem wq_mkQ {l : List Po} (h1 : l.length ≤ M) (h2 : ∀ p ∈ l, WP a L p) : WQ a L M (mkQ l) := by
  refine ⟨Nat.le_trans ?_ h1, fun p hp => h2 p (trimBy_sub hp)⟩
  unfold mkQ
  rw [trimBy_len]
  exact trimLen_le _ _
theorem WQ.mono {a' L' M' : Nat} {q : Q2} (h : WQ a L M q) (h1 : a ≤ a') (h2 : L ≤ L') (h3 : M ≤ M') : WQ a' L' M' q := ⟨Nat.le_trans h.1 h3, fun p hp => (h.2 p hp).mono h1 h2⟩
theorem mvIn_len (s : Fr) (m : Nat) (l : List Po) : ∀ n, (mvIn s m n l).length = l.length
  | 0 => rfl
  | n + 1 => by
    show (List.set _ _ _).length = _
    rw [List.length_set]; exact mvIn_len s m l n
theorem mvOut_len (s : Fr) (m : Nat) (l : List Po) : ∀ n, (mvOut s m n l).length = l.length
  | 0 => rfl
  | n + 1 => by
    show (mvIn _ _ _ _).length = _
    rw [mvIn_len]; exact mvOut_len s m l n
theorem mvIn_w {x : Int} {l : List Po} (m : Nat) (hs : lg x ≤ b) (hl : ∀ j, WP a L (l.getD j p0)) : ∀ n j, WP (a + n * (b + 2)) L ((mvIn (mkF x 1) m n l).getD j p0)
  | 0, j => (hl j).mono (Nat.le_add_right _ _) (Nat.le_refl _)
  | n + 1, j => by
    have ih := mvIn_w m hs hl n
    have e : (n + 1) * (b + 2) = n * (b + 2) + (b + 2) := Nat.succ_mul _ _
    show WP _ _ ((List.set _ _ _).getD j p0)
    rw [getD_setP]
    split
    · split
      · exact (wp_add (ih _) (wp_scaled (ih _) hs)).mono (by omega) (by omega)
      · exact wp_p0.mono (Nat.zero_le _) (Nat.zero_le _)
    · exact (ih j).mono (by omega) (Nat.le_refl _)
theorem mvOut_w {x : Int} {l : List Po} (m : Nat) (hs : lg x ≤ b) (hl : ∀ j, WP a L (l.getD j p0)) : ∀ n j, WP (a + n * (m * (b + 2))) L ((mvOut (mkF x 1) m n l).getD j p0)
  | 0, j => (hl j).mono (Nat.le_add_right _ _) (Nat.le_refl _)
  | n + 1, j => by
    have ih := mvOut_w m hs hl n
    have h1 : (m - 1 - n) * (b + 2) ≤ m * (b + 2) := Nat.mul_le_mul_right _ (by omega)
    have e : (n + 1) * (m * (b + 2)) = n * (m * (b + 2)) + m * (b + 2) := Nat.succ_mul _ _
    exact (mvIn_w (l := mvOut (mkF x 1) m n l) m hs ih (m - 1 - n) j).mono (by omega) (Nat.le_refl _)
theorem mvStart_w {q : Q2} {x : Int} (hq : WQ a L M q) (hx : lg x ≤ b) : ∀ j, WP (a + L * (L * (b + 2))) L ((q.map fun r => pShift r x).getD j p0) := by
  refine wp_getD fun p hp => ?_
  obtain ⟨r, hr, rfl⟩ := List.mem_map.mp hp
  exact wp_shift (hq.2 r hr) hx
theorem wq_moved {q : Q2} {x y : Int} (hq : WQ a L M q) (hx : lg x ≤ b) (hy : lg y ≤ b) : WQ (a + L * (L * (b + 2)) + M * (M * (b + 2))) L M (qMoved q x y) := by
  have h0 := hq.1
  refine wq_mkQ ?_ (wp_all fun j => ?_)
  · rw [mvOut_len, List.length_map]; exact h0
  · refine (mvOut_w (l := q.map fun r => pShift r x) q.length hy (mvStart_w hq hx) (q.length - 1) j).mono ?_ (Nat.le_refl _)
    have : (q.length - 1) * (q.length * (b + 2)) ≤ M * (M * (b + 2)) := Nat.mul_le_mul (by omega) (Nat.mul_le_mul_right _ h0)
    omega
end
end G
end
section
/-! Sizes of division. -/
namespace G
section
variable {a b c d da db : Nat} {p q : Po}
def S2 (a d : Nat) (p : Po) : Prop := p.den ≠ 0 ∧ lg p.den ≤ d ∧ ∀ c ∈ p.co, lg c ≤ a
def S2F (a d : Nat) (f : Fr) : Prop := f.den ≠ 0 ∧ lg f.num ≤ a ∧ lg f.den ≤ d
theorem Sz.s2 (h : Sz a p) : S2 a a p := h
theorem SzF.s2 {f : Fr} (h : SzF a f) : S2F a a f := h
theorem WP.s2 {L : Nat} (h : WP a L p) : S2 a 0 p := ⟨by rw [h.1]; decide, by rw [h.1, lg_one]; exact Nat.le_refl _, h.2.1⟩
/-- the last one is not zero -/
def Nz (l : List Int) : Prop := l.length ≠ 0 ∧ l.getD (l.length - 1) 0 ≠ 0
/-! ### the turns of a division -/
theorem subIn_len (place : Nat) (top : Int) (q : List Int) (r : List Int) : ∀ n, (subIn place top q n r).length = r.length
  | 0 => rfl
  | n + 1 => by
    show (List.set _ _ _).length = _
    rw [List.length_set]; exact subIn_len place top q r n
theorem subIn_lg {place : Nat} {top : Int} {q r : List Int} (ht : lg top ≤ a) (hq : ∀ c ∈ q, lg c ≤ b) (hr : ∀ j, lg (r.getD j 0) ≤ a + b + 1) : ∀ n j, lg ((subIn place top q n r).getD j 0) ≤ (if j < place + n ∧ place ≤ j then a + b + 2 else a + b + 1)
  | 0, j => by rw [if_neg (by omega)]; exact hr j
  | n + 1, j => by
    have ih := subIn_lg (place := place) ht hq hr n
    show lg ((List.set _ _ _).getD j 0) ≤ _
    rw [getD_set]
    by_cases h : place + n = j
    · rw [if_pos h, if_pos (show j < place + (n + 1) ∧ place ≤ j by omega)]
      split
      · have h1 := ih (place + n)
        rw [if_neg (by omega)] at h1
        exact lg_subb h1 (Nat.le_trans (lg_mulb ht (lg_getD hq n)) (by omega))
      · rw [lg_zero]; exact Nat.zero_le _
    · rw [if_neg h]
      refine Nat.le_trans (ih j) ?_
      split <;> split <;> omega
theorem map_getD0 {l : List Int} {f : Int → Int} (h : f 0 = 0) (j : Nat) : (l.map f).getD j 0 = f (l.getD j 0) := by
  rw [List.getD_eq_getElem?_getD, List.getD_eq_getElem?_getD, List.getElem?_map]
  cases l[j]? with
  | none => exact h.symm
  | some x => rfl
theorem dloop_len (p q : List Int) : ∀ n, (dloop p q n).rest.length = p.length ∧ (dloop p q n).quo.length = dlen p q
  | 0 => ⟨rfl, List.length_replicate ..⟩
  | n + 1 => by
    obtain ⟨h1, h2⟩ := dloop_len p q n
    refine ⟨?_, ?_⟩
    · show (subIn _ _ _ _ _).length = _
      rw [subIn_len, List.length_map]; exact h1
    · show (List.set _ _ _).length = _
      rw [List.length_set, List.length_map]; exact h2
theorem dloop_lg {p q : List Int} (hp : ∀ c ∈ p, lg c ≤ a) (hq : ∀ c ∈ q, lg c ≤ b) : ∀ n, (∀ j, lg ((dloop p q n).rest.getD j 0) ≤ a + n * (b + 2)) ∧ (∀ j, lg ((dloop p q n).quo.getD j 0) ≤ a + n * (b + 2)) ∧ lg (dloop p q n).scale ≤ n * (b + 2)
  | 0 => by
    refine ⟨fun j => ?_, fun j => ?_, ?_⟩
    · rw [Nat.zero_mul, Nat.add_zero]; exact lg_getD hp j
    · show lg ((List.replicate _ (0 : Int)).getD j 0) ≤ _
      rw [rep_getD, lg_zero]; exact Nat.zero_le _
    · show lg 1 ≤ _
      rw [lg_one]; exact Nat.zero_le _
  | n + 1 => by
    obtain ⟨h1, h2, h3⟩ := dloop_lg hp hq n
    have e : (n + 1) * (b + 2) = n * (b + 2) + (b + 2) := Nat.succ_mul _ _
    have hl : lg (q.getD (q.length - 1) 0) ≤ b := lg_getD hq _
    have ht := h1 (dlen p q - 1 - n + q.length - 1)
    refine ⟨fun j => ?_, fun j => ?_, ?_⟩
    · refine Nat.le_trans (subIn_lg ht hq (fun j => ?_) q.length j) (by split <;> omega)
      rw [map_getD0 (Int.mul_zero _)]
      exact Nat.le_trans (lg_mulb hl (h1 j)) (by omega)
    · show lg ((List.set _ _ _).getD j 0) ≤ _
      have hm : ∀ j, lg (((dloop p q n).quo.map fun x => q.getD (q.length - 1) 0 * x).getD j 0) ≤ a + n * (b + 2) + b + 1 := fun j => by
        rw [map_getD0 (Int.mul_zero _)]
        exact Nat.le_trans (lg_mulb hl (h2 j)) (by omega)
      rw [getD_set]
      split
      · split
        · exact Nat.le_trans (lg_addb (hm _) (Nat.le_trans ht (by omega))) (by omega)
        · rw [lg_zero]; exact Nat.zero_le _
      · exact Nat.le_trans (hm j) (by omega)
    · show lg ((dloop p q n).scale * _) ≤ _
      exact Nat.le_trans (lg_mulb h3 hl) (by omega)
theorem dloop_scale {p q : List Int} (hq : Nz q) : ∀ n, (dloop p q n).scale ≠ 0
  | 0 => by show (1 : Int) ≠ 0; decide
  | n + 1 => mul_ne (dloop_scale hq n) hq.2
/-- what a division needs -/
def DOk (p q : Po) : Prop := ∃ a da b db, S2 a da p ∧ S2 b db q ∧ Nz q.co ∧ a + dlen p.co q.co * (b + 2) + da + db < 130000000 ∧ p.co.length ≤ 90000 ∧ q.co.length ≤ 90000
/-- what making primitive needs -/
def COk (p : Po) : Prop := (pZ p = true ∨ content p.co ≠ 0) ∧ p.co.length ≤ 90000
/-- what making monic needs -/
def MOk (p : Po) : Prop := pZ p = true ∨ (Nz p.co ∧ ∃ a L, WP a L p ∧ a < 130000000 ∧ L ≤ 90000)
/-- what the chain of the common divisor needs -/
structure GOk (p q : Po) : Prop where
  cp : COk p
  cq : COk q
  turn : ∀ n, n < gN p q → pZ (gseq (gstart p q) n).2 = false ∧ DOk (gseq (gstart p q) n).1 (gseq (gstart p q) n).2 ∧ COk (divide (gseq (gstart p q) n).1 (gseq (gstart p q) n).2).2
  stop : pZ (gseq (gstart p q) (gN p q)).2 = true
  last : MOk (gseq (gstart p q) (gN p q)).1
theorem nz_lead {p : Po} (h : Nz p.co) : (mkF (p.co.getD (p.co.length - 1) 0) 1).num ≠ 0 := by
  unfold mkF
  rw [gcdI_one]
  have e : sgnd 1 1 = 1 := by decide
  rw [e, Int.fdiv_one]
  exact h.2
theorem mkF_one (x : Int) : mkF x 1 = ⟨x, 1⟩ := by
  unfold mkF
  rw [gcdI_one]
  have e : sgnd 1 1 = 1 := by decide
  rw [e, Int.fdiv_one]
  rfl
theorem s2_over {x : Int} (h0 : x ≠ 0) (hx : lg x ≤ a) : S2F 0 a (fOver (mkF 1 1) (mkF x 1)) := by
  unfold fOver
  rw [mkF_one, mkF_one]
  have g0 : sgnd (gcdI (1 * 1) (1 * x)) (1 * x) ≠ 0 := sgnd_ne (gcdI_ne (by rw [Int.one_mul]; exact h0))
  have g1 : sgnd (gcdI (1 * 1) (1 * x)) (1 * x) ∣ 1 * 1 := sgnd_dvd.mpr (gcdI_dvd_left _ _)
  have g2 : sgnd (gcdI (1 * 1) (1 * x)) (1 * x) ∣ 1 * x := sgnd_dvd.mpr (gcdI_dvd_right _ _)
  refine ⟨fdiv_ne g2 (by rw [Int.one_mul]; exact h0), ?_, ?_⟩
  · exact Nat.le_trans (lg_fdiv g1 g0) (show lg (1 * 1) ≤ 0 by decide)
  · refine Nat.le_trans (lg_fdiv g2 g0) ?_
    show lg (1 * x) ≤ a
    rw [Int.one_mul]; exact hx
end
end G
end
section
/-! The mirror of matrices and systems over the fractions; sizes. -/
namespace G
def f0 : Fr := mkF 0 1
def f1 : Fr := mkF 1 1
abbrev Mx := List (List Fr)
def mGet (m : Mx) (i j : Nat) : Fr := (m.getD i []).getD j f0
def mIden (n : Nat) : Mx := (List.range n).map fun r => (List.range n).map fun c => mkF (if r = c then 1 else 0) 1
def mCombN (v : List Fr) (rows : Mx) (w n : Nat) : List Fr := loop (fun i t => if (v.getD i f0).num = 0 then t else (List.range w).map fun c => fAdd (t.getD c f0) (fMul (v.getD i f0) (mGet rows i c))) n (List.replicate w f0)
def mComb (v : List Fr) (rows : Mx) (w : Nat) : List Fr := mCombN v rows w v.length
def mMul (l r : Mx) (w : Nat) : Mx := l.map fun row => mComb row r w
/-- the first of n places from k on that is p -/
def firstN (p : Nat → Bool) : Nat → Nat → Option Nat
  | 0, _ => none
  | n + 1, k => if p k = true then some k else firstN p n (k + 1)
def ppS (t : Mx) (rank c : Nat) : Option Nat := firstN (fun i => !decide ((mGet t i c).num = 0)) (t.length - rank) rank
def mWo (row : List Fr) (f : Fr) (src : List Fr) : List Fr := if f.num = 0 then row else (List.range row.length).map fun i => fSub (row.getD i f0) (fMul f (src.getD i f0))
def clPiv (t : Mx) (place c : Nat) : List Fr := (t.getD place []).map fun e => fMul (fOver f1 ((t.getD place []).getD c f0)) e
def clRow (t : Mx) (rank place c i : Nat) : List Fr := if i = rank then clPiv t place c else mWo ((t.set place (t.getD rank [])).getD i []) (mGet (t.set place (t.getD rank [])) i c) (clPiv t place c)
def clS (t : Mx) (rank place c : Nat) : Mx := (List.range t.length).map fun i => clRow t rank place c i
structure Red where
  t : Mx
  p : List Nat
def redStep (c : Nat) (s : Red) : Red := match ppS s.t s.p.length c with
  | none => s
  | some pl => ⟨clS s.t s.p.length pl c, s.p ++ [c]⟩
def red0 (rows : Mx) : Red := ⟨(List.range rows.length).map fun i => rows.getD i [] ++ (mIden rows.length).getD i [], []⟩
def redN (rows : Mx) (n : Nat) : Red := loop redStep n (red0 rows)
def ffree (p : List Nat) (w : Nat) : Option Nat := firstN (fun c => !p.contains c) w 0
inductive KA where
  | inv (m : Mx)
  | vec (v : List Fr)
def kvIn (t : Mx) (p : List Nat) (free n : Nat) (v : List Fr) : List Fr := loop (fun i v => v.set (p.getD i 0) (fNeg (mGet t i free))) n v
def kernelM (rows : Mx) (w : Nat) : KA := match ffree (redN rows w).p w with
  | none => .inv ((List.range w).map fun i => ((redN rows w).t.getD i []).drop w)
  | some f => .vec (kvIn (redN rows w).t (redN rows w).p f (redN rows w).p.length ((List.replicate w f0).set f f1))
/-! ### first places -/
theorem firstN_none {p : Nat → Bool} : ∀ {n k : Nat}, firstN p n k = none → ∀ i, i < n → p (k + i) = false
  | 0, _, _, i, hi => by omega
  | n + 1, k, h, i, hi => by
    unfold firstN at h
    split at h
    · cases h
    · rename_i hk
      cases i with
      | zero => simpa using hk
      | succ i =>
        have := firstN_none h i (by omega)
        rw [show k + (i + 1) = k + 1 + i by omega]
        exact this
theorem firstN_some {p : Nat → Bool} : ∀ {n k j : Nat}, firstN p n k = some j → k ≤ j ∧ j < k + n ∧ p j = true ∧ ∀ i, k ≤ i → i < j → p i = false
  | 0, _, _, h => by cases h
  | n + 1, k, j, h => by
    unfold firstN at h
    split at h
    · rename_i hk
      cases h
      exact ⟨Nat.le_refl _, by omega, hk, fun i h1 h2 => by omega⟩
    · rename_i hk
      obtain ⟨h1, h2, h3, h4⟩ := firstN_some h
      refine ⟨by omega, by omega, h3, fun i h5 h6 => ?_⟩
      by_cases e : i = k
      · subst e; simpa using hk
      · exact h4 i (by omega) h6
/-! ### sizes -/
section
variable {a b n m w : Nat}
theorem szf_f0 : SzF 0 f0 := by unfold SzF; decide
theorem szf_f1 : SzF 0 f1 := by unfold SzF; decide
theorem szf_getD {l : List Fr} (h : ∀ f ∈ l, SzF a f) (i : Nat) : SzF a (l.getD i f0) := by
  rw [List.getD_eq_getElem?_getD]
  cases e : l[i]? with
  | none => exact szf_f0.mono (Nat.zero_le _)
  | some x => exact h x (List.mem_of_getElem? e)
/-- n rows of m entries -/
def TF (a n m : Nat) (t : Mx) : Prop := t.length = n ∧ ∀ r ∈ t, r.length = m ∧ ∀ f ∈ r, SzF a f
theorem TF.mono {t : Mx} (h : TF a n m t) (l : a ≤ b) : TF b n m t := ⟨h.1, fun r hr => ⟨(h.2 r hr).1, fun f hf => ((h.2 r hr).2 f hf).mono l⟩⟩
theorem getD_memL {α : Type} {l : List α} {i : Nat} {d : α} (h : i < l.length) : l.getD i d ∈ l := by
  rw [List.getD_eq_getElem?_getD, List.getElem?_eq_getElem h]
  exact List.getElem_mem h
theorem TF.row {t : Mx} (h : TF a n m t) {i : Nat} (hi : i < n) : (t.getD i []).length = m ∧ ∀ f ∈ t.getD i [], SzF a f := h.2 _ (getD_memL (by rw [h.1]; exact hi))
theorem TF.get {t : Mx} (h : TF a n m t) (i j : Nat) : SzF a (mGet t i j) := by
  unfold mGet
  by_cases hi : i < n
  · exact szf_getD (h.row hi).2 j
  · have e : t.getD i [] = [] := by rw [List.getD_eq_getElem?_getD, List.getElem?_eq_none (by rw [h.1]; omega)]; rfl
    rw [e]
    exact szf_f0.mono (Nat.zero_le _)
theorem tf_iden (n : Nat) : TF 0 n n (mIden n) := by
  refine ⟨by unfold mIden; rw [List.length_map, List.length_range], fun r hr => ?_⟩
  obtain ⟨i, _, rfl⟩ := List.mem_map.mp hr
  refine ⟨by rw [List.length_map, List.length_range], fun f hf => ?_⟩
  obtain ⟨c, _, rfl⟩ := List.mem_map.mp hf
  split <;> exact sz_mkF (by decide) (by decide) (by decide)
theorem tf_set {t : Mx} {r : List Fr} (h : TF a n m t) (i : Nat) (hr : r.length = m ∧ ∀ f ∈ r, SzF a f) : TF a n m (t.set i r) := by
  refine ⟨by rw [List.length_set]; exact h.1, fun x hx => ?_⟩
  rcases List.mem_or_eq_of_mem_set hx with h' | h'
  · exact h.2 x h'
  · rw [h']; exact hr
theorem mWo_sz {row src : List Fr} {f : Fr} (h1 : row.length = m ∧ ∀ f ∈ row, SzF a f) (hf : SzF a f) (h2 : ∀ f ∈ src, SzF b f) : (mWo row f src).length = m ∧ ∀ g ∈ mWo row f src, SzF (a + (a + b + 1) + 2) g := by
  unfold mWo
  split
  · exact ⟨h1.1, fun g hg => (h1.2 g hg).mono (by omega)⟩
  · refine ⟨by rw [List.length_map, List.length_range]; exact h1.1, fun g hg => ?_⟩
    obtain ⟨i, _, rfl⟩ := List.mem_map.mp hg
    exact sz_fSub (szf_getD h1.2 i) (sz_fMul hf (szf_getD h2 i))
theorem clPiv_sz {t : Mx} {place c : Nat} (h : TF a n m t) (hp : place < n) (h0 : (mGet t place c).num ≠ 0) : (clPiv t place c).length = m ∧ ∀ g ∈ clPiv t place c, SzF (2 * a + 2) g := by
  have hr := h.row hp
  unfold clPiv
  refine ⟨by rw [List.length_map]; exact hr.1, fun g hg => ?_⟩
  obtain ⟨e, he, rfl⟩ := List.mem_map.mp hg
  exact (sz_fMul (sz_fOver szf_f1 (szf_getD hr.2 c) h0) (hr.2 e he)).mono (by omega)
theorem clS_tf {t : Mx} {rank place c : Nat} (h : TF a n m t) (hr : rank < n) (hp : place < n) (h0 : (mGet t place c).num ≠ 0) : TF (4 * a + 5) n m (clS t rank place c) := by
  refine ⟨by unfold clS; rw [List.length_map, List.length_range]; exact h.1, fun x hx => ?_⟩
  obtain ⟨i, hi, rfl⟩ := List.mem_map.mp hx
  have hi' : i < n := by have := List.mem_range.mp hi; rw [h.1] at this; exact this
  have hs := tf_set h place (h.row hr)
  have hc := clPiv_sz h hp h0
  unfold clRow
  split
  · exact ⟨hc.1, fun f hf => (hc.2 f hf).mono (by omega)⟩
  · have := mWo_sz (hs.row hi') (hs.get i c) hc.2
    exact ⟨this.1, fun f hf => (this.2 f hf).mono (by omega)⟩
/-- the size after k columns -/
def bk (a k : Nat) : Nat := 4 ^ k * (a + 2) - 2
theorem bk_succ (a k : Nat) : 4 * bk a k + 5 ≤ bk a (k + 1) := by
  have h : 0 < 4 ^ k := Nat.pow_pos (by decide)
  have h1 : a + 2 ≤ 4 ^ k * (a + 2) := Nat.le_mul_of_pos_left _ h
  unfold bk
  rw [Nat.pow_succ, Nat.mul_comm (4 ^ k) 4, Nat.mul_assoc]
  omega
theorem bk_le (a k : Nat) : bk a k ≤ bk a (k + 1) := by have := bk_succ a k; omega
theorem bk_mono (a : Nat) {j k : Nat} (h : j ≤ k) : bk a j ≤ bk a k := by
  induction h with
  | refl => exact Nat.le_refl _
  | step _ ih => exact Nat.le_trans ih (bk_le a _)
/-- what holds along the reduction -/
structure RedOk (a n m c : Nat) (s : Red) : Prop where
  tf : TF (bk a c) n m s.t
  pl : s.p.length ≤ n
  pb : ∀ x ∈ s.p, x < c
  pc : s.p.length ≤ c
theorem ppS_some {t : Mx} {rank c pl : Nat} (h : ppS t rank c = some pl) : rank ≤ pl ∧ pl < t.length ∧ (mGet t pl c).num ≠ 0 := by
  obtain ⟨h1, h2, h3, _⟩ := firstN_some h
  refine ⟨h1, by omega, ?_⟩
  simpa using h3
theorem redStep_ok {s : Red} {c : Nat} (h : RedOk a n m c s) : RedOk a n m (c + 1) (redStep c s) := by
  unfold redStep
  cases e : ppS s.t s.p.length c with
  | none => exact ⟨h.tf.mono (bk_le a c), h.pl, fun x hx => Nat.lt_succ_of_lt (h.pb x hx), Nat.le_succ_of_le h.pc⟩
  | some pl =>
    obtain ⟨h1, h2, h3⟩ := ppS_some e
    rw [h.tf.1] at h2
    refine ⟨(clS_tf h.tf (by omega) h2 h3).mono (bk_succ a c), ?_, fun x hx => ?_, ?_⟩
    · show (s.p ++ [c]).length ≤ n
      rw [List.length_append, List.length_singleton]; omega
    · rcases List.mem_append.mp hx with hx | hx
      · exact Nat.lt_succ_of_lt (h.pb x hx)
      · rw [List.mem_singleton.mp hx]; exact Nat.lt_succ_self c
    · show (s.p ++ [c]).length ≤ c + 1
      rw [List.length_append, List.length_singleton]
      have := h.pc
      omega
theorem red0_ok {rows : Mx} (h : TF a n w rows) : RedOk a n (w + n) 0 (red0 rows) := by
  refine ⟨⟨?_, fun r hr => ?_⟩, Nat.zero_le _, (fun x hx => by cases hx), Nat.zero_le _⟩
  · unfold red0; rw [List.length_map, List.length_range]; exact h.1
  · obtain ⟨i, hi, rfl⟩ := List.mem_map.mp hr
    have hi' : i < n := by have := List.mem_range.mp hi; rw [h.1] at this; exact this
    have h1 := h.row hi'
    have h2 := (tf_iden n).row hi'
    have e : bk a 0 = a := by unfold bk; omega
    rw [h.1]
    refine ⟨by rw [List.length_append, h1.1, h2.1], fun f hf => ?_⟩
    rw [e]
    rcases List.mem_append.mp hf with hf | hf
    · exact h1.2 f hf
    · exact (h2.2 f hf).mono (Nat.zero_le _)
theorem redN_ok {rows : Mx} (h : TF a n w rows) : ∀ k, RedOk a n (w + n) k (redN rows k)
  | 0 => red0_ok h
  | k + 1 => redStep_ok (redN_ok h k)
theorem kvIn_len (t : Mx) (p : List Nat) (free : Nat) (v : List Fr) : ∀ n, (kvIn t p free n v).length = v.length
  | 0 => rfl
  | n + 1 => by
    show (List.set _ _ _).length = _
    rw [List.length_set]; exact kvIn_len t p free v n
/-- combinations -/
theorem mCombN_sz {v : List Fr} {rows : Mx} (hv : ∀ f ∈ v, SzF a f) (hr : ∀ i c, SzF b (mGet rows i c)) : ∀ n, (mCombN v rows w n).length = w ∧ ∀ f ∈ mCombN v rows w n, SzF (n * (a + b + 3)) f
  | 0 => ⟨List.length_replicate .., fun f hf => by rw [List.eq_of_mem_replicate hf]; exact szf_f0.mono (Nat.zero_le _)⟩
  | n + 1 => by
    obtain ⟨h1, h2⟩ := mCombN_sz hv hr n
    have e : (n + 1) * (a + b + 3) = n * (a + b + 3) + (a + b + 3) := Nat.succ_mul _ _
    have e2 : mCombN v rows w (n + 1) = if (v.getD n f0).num = 0 then mCombN v rows w n else (List.range w).map fun c => fAdd ((mCombN v rows w n).getD c f0) (fMul (v.getD n f0) (mGet rows n c)) := rfl
    rw [e2]
    split
    · exact ⟨h1, fun f hf => (h2 f hf).mono (by omega)⟩
    · refine ⟨by rw [List.length_map, List.length_range], fun f hf => ?_⟩
      obtain ⟨c, _, rfl⟩ := List.mem_map.mp hf
      exact (sz_fAdd (szf_getD h2 c) (sz_fMul (szf_getD hv n) (hr n c))).mono (by omega)
end
end G
end
section
/-! The mirror of the systems over the polynomials; what they need. -/
namespace G
abbrev PM := List (List Po)
def pGet (m : PM) (i j : Nat) : Po := (m.getD i []).getD j p0
/-! ### whole rows -/
def wMult (row : List Po) (n : Nat) : Int := loop (fun i m => lcmI m (row.getD i p0).den) n 1
def wDivE (p : Po) (m d : Int) (n : Nat) : Int := loop (fun j d => gcdI d (p.co.getD j 0 * m.fdiv p.den)) n d
def wDivN (row : List Po) (m : Int) (n : Nat) : Int := loop (fun i d => wDivE (row.getD i p0) m d (row.getD i p0).co.length) n 0
def wDiv (row : List Po) : Int := wDivN row (wMult row row.length) row.length
def wRow (row : List Po) : List Po := if wDiv row = 0 then row else row.map fun p => pScaled p (mkF (wMult row row.length) (wDiv row))
def dRow (row : List Po) : List Po := if pDeg (cdivof row) > 0 then row.map fun p => pExact p (cdivof row) else row
def pRow (row : List Po) : List Po := wRow (dRow row)
/-! ### elimination -/
def ppStep (t : PM) (rank c i : Nat) (b : Option Nat) : Option Nat := if !pZ (pGet t (rank + i) c) && (match b with
  | none => true
  | some k => decide (pDeg (pGet t (rank + i) c) < pDeg (pGet t k c))) then some (rank + i) else b
def ppPN (t : PM) (rank c n : Nat) : Option Nat := loop (fun i b => ppStep t rank c i b) n none
def ppP (t : PM) (rank c : Nat) : Option Nat := ppPN t rank c (t.length - rank)
def eNum (row piv : List Po) (c i : Nat) : Po := pSub (pMul (piv.getD c p0) (row.getD i p0)) (pMul (row.getD c p0) (piv.getD i p0))
def elimR (row piv : List Po) (c : Nat) (last : Po) : List Po := (List.range row.length).map fun i => pExact (eNum row piv c i) last
def clPRow (t : PM) (rank place c : Nat) (last : Po) (i : Nat) : List Po := if i = rank then t.getD place [] else elimR ((t.set place (t.getD rank [])).getD i []) (t.getD place []) c last
def clP (t : PM) (rank place c : Nat) (last : Po) : PM := (List.range t.length).map fun i => clPRow t rank place c last i
def kvPIn (t : PM) (c n : Nat) (v : List Po) : List Po := loop (fun i v => v.set i (pNeg (pGet t i c))) n v
def kvP0 (t : PM) (c : Nat) (last : Po) (w : Nat) : List Po := kvPIn t c c ((List.replicate w p0).set c last)
def kvP (t : PM) (c : Nat) (last : Po) (w : Nat) : List Po := pRow (kvP0 t c last w)
structure PKs where
  t : PM
  last : Po
def pkStep (c : Nat) (s : PKs) : PKs := match ppP s.t c c with
  | none => s
  | some pl => ⟨clP s.t c pl c s.last, pGet (clP s.t c pl c s.last) c c⟩
def pkN (rows : PM) (n : Nat) : PKs := loop pkStep n ⟨rows.map pRow, p1⟩
inductive PA where
  | vec (c : Nat)
  | pt (n : Nat) (m : Mx)
/-! ### needs -/
structure WOk (row : List Po) : Prop where
  sz : ∃ a, (∀ p ∈ row, S2 a 99 p ∧ p.co.length ≤ 90000) ∧ 2 * a + 500 < 130000000
  mu : ∀ i, i ≤ row.length → (wMult row i).natAbs < 2 ^ 100
  len : row.length ≤ 90000
structure PRowOk (row : List Po) : Prop where
  g : ∀ i, i < row.length → GOk (cdivN row i) (row.getD i p0)
  d : pDeg (cdivof row) > 0 → ∀ p ∈ row, DOk p (cdivof row)
  w : WOk (dRow row)
  len : row.length ≤ 90000
structure ElOk (row piv : List Po) (c : Nat) (last : Po) : Prop where
  sz : ∃ a L, (∀ p ∈ row, ZP a L p) ∧ (∀ p ∈ piv, ZP a L p) ∧ 2 * (a + a + 1 + L) < 130000000 ∧ L ≤ 30000
  cr : c < row.length
  len : row.length ≤ piv.length
  len2 : row.length ≤ 90000
  dv : ∀ i, i < row.length → DOk (eNum row piv c i) last
structure ClOk (t : PM) (rank place c : Nat) (last : Po) : Prop where
  r : rank < t.length
  p : place < t.length
  len : t.length ≤ 90000
  el : ∀ i, i < t.length → i ≠ rank → ElOk ((t.set place (t.getD rank [])).getD i []) (t.getD place []) c last
theorem ppStep_or (t : PM) (rank c i : Nat) (b : Option Nat) : ppStep t rank c i b = some (rank + i) ∨ ppStep t rank c i b = b := by
  unfold ppStep
  exact (Decidable.em _).elim (fun h => .inl (if_pos h)) fun h => .inr (if_neg h)
theorem wMult_dvd (row : List Po) : ∀ n i, i < n → (row.getD i p0).den ∣ wMult row n
  | 0, i, h => by omega
  | n + 1, i, h => by
    have e : wMult row (n + 1) = lcmI (wMult row n) (row.getD n p0).den := rfl
    rw [e]
    by_cases hin : i = n
    · subst hin
      exact Int.natAbs_dvd_natAbs.mp (Nat.dvd_lcm_right _ _)
    · exact Int.dvd_trans (wMult_dvd row n i (by omega)) (Int.natAbs_dvd_natAbs.mp (Nat.dvd_lcm_left _ _))
theorem wDivE_lg (p : Po) (m : Int) {b : Nat} (h : ∀ j, lg (p.co.getD j 0 * m.fdiv p.den) ≤ b) : ∀ n d, lg d ≤ b → lg (wDivE p m d n) ≤ b
  | 0, d, hd => hd
  | n + 1, d, hd => by
    have ih := wDivE_lg p m h n d hd
    show lg (gcdI (wDivE p m d n) (p.co.getD n 0 * m.fdiv p.den)) ≤ b
    by_cases h0 : p.co.getD n 0 * m.fdiv p.den = 0
    · rw [h0]
      unfold gcdI
      rw [Int.natAbs_zero, Nat.gcd_zero_right]
      unfold lg at ih ⊢
      rw [Int.natAbs_natCast]; exact ih
    · refine Nat.le_trans (lg_mono ?_) (h n)
      exact Nat.le_of_dvd (Int.natAbs_pos.mpr h0) (Int.natAbs_dvd_natAbs.mpr (gcdI_dvd_right _ _))
theorem lg_lt {x : Int} {k : Nat} (h : x.natAbs < 2 ^ (k + 1)) : lg x ≤ k := log_le h
theorem lt_of_lg {x : Int} {k : Nat} (h : lg x ≤ k) : x.natAbs < 2 ^ (k + 1) := Nat.lt_of_lt_of_le (lt_pow _) (Nat.pow_le_pow_right (by decide) (Nat.succ_le_succ h))
end G
end
section
/-! The mirror of the telescoping; sizes of its parts. -/
namespace G
structure Bsum where
  w : Q2
  b : Fr
  ch : Nat
  ri : Nat
  ce : Nat
def lns (a b : Int) (lo n : Nat) : List Q2 := (List.range n).map fun t => qLine a b ((lo + t : Nat) : Int)
def colCh (J j : Nat) : List Q2 := lns 1 0 1 j ++ lns 1 (-1) (j + 1) (J - j)
def colRi (J j : Nat) : List Q2 := lns 1 1 1 j ++ lns 1 0 (j + 1) (J - j)
def column (s : Bsum) (J j : Nat) : Q2 := qMul (qMul (qMoved s.w (j : Int) 0) (qPow (qProd (colCh J j)) s.ch)) (qPow (qProd (colRi J j)) s.ri)
def forward (s : Bsum) (J : Nat) : Q2 := qMul (qMul (qMul (qInN (pConst s.b)) (qPow (qLine 1 (-1) (J : Int)) s.ch)) (qPow (qLine 1 1 1) s.ri)) (qPow (qLine 0 4 2) s.ce)
def facs (s : Bsum) : Nat := s.ch + s.ri + s.ce
def backward (s : Bsum) : Q2 := qPow (qLine 0 1 0) (facs s)
/-- the greatest of a list, from a first one on -/
def maxL : List Int → Int → Int
  | [], m => m
  | x :: l, m => maxL l (max m x)
def maxOf (l : List Int) : Int := maxL (l.drop 1) (l.getD 0 0)
def leadB (s : Bsum) : Fr := fMul (fMul s.b (fPow (mkF (-1) 1) s.ch)) (fPow (mkF 4 1) s.ce)
def cdegs (s : Bsum) (J : Nat) : List Int := (List.range (J + 1)).map fun j => qDk (column s J j)
def cdegB (s : Bsum) (J : Nat) : Int := maxOf (cdegs s J) - (facs s : Int)
def cdegC (s : Bsum) (J : Nat) : Int := if leadB s = f1 then (if s.ch = s.ri ∧ s.ce % 2 = 0 then max (cdegB s J + 1) ((s.ch : Int) * ((J : Int) - 1) - (s.ce : Int).fdiv 2) else cdegB s J + 1) else cdegB s J
def cdeg (s : Bsum) (J : Nat) : Int := max (cdegC s J) (-1)
def mpiece (s : Bsum) (J i : Nat) : Q2 := qSub (qMul (backward s) (qPow (qLine 0 1 0) i)) (qMul (forward s J) (qPow (qLine 0 1 1) i))
def nM (s : Bsum) (J : Nat) : Nat := (cdeg s J + 1).toNat
def pieces (s : Bsum) (J : Nat) : List Q2 := ((List.range (J + 1)).map fun j => column s J j) ++ (List.range (nM s J)).map fun i => mpiece s J i
def eqSize (s : Bsum) (J : Nat) : Nat := (1 + maxOf ((pieces s J).map qDk)).toNat
def eqRows (s : Bsum) (J : Nat) : PM := (List.range (eqSize s J)).map fun e => (pieces s J).map fun p => qRow p e
def eqW (s : Bsum) (J : Nat) : Nat := (pieces s J).length
theorem maxL_spec : ∀ (l : List Int) (m : Int), (maxL l m = m ∨ maxL l m ∈ l) ∧ m ≤ maxL l m ∧ ∀ y ∈ l, y ≤ maxL l m
  | [], m => ⟨.inl rfl, Int.le_refl _, fun y hy => by cases hy⟩
  | x :: l, m => by
    obtain ⟨h1, h2, h3⟩ := maxL_spec l (max m x)
    refine ⟨?_, Int.le_trans (Int.le_max_left m x) h2, fun y hy => ?_⟩
    · show maxL l (max m x) = m ∨ maxL l (max m x) ∈ x :: l
      rcases h1 with h1 | h1
      · rw [h1]
        rcases Int.le_total m x with z | z
        · rw [Int.max_eq_right z]; exact .inr (List.mem_cons_self ..)
        · rw [Int.max_eq_left z]; exact .inl rfl
      · exact .inr (List.mem_cons_of_mem _ h1)
    · rcases List.mem_cons.mp hy with rfl | hy
      · exact Int.le_trans (Int.le_max_right m y) h2
      · exact h3 y hy
theorem maxOf_spec {l : List Int} (h : 0 < l.length) : maxOf l ∈ l ∧ ∀ y ∈ l, y ≤ maxOf l := by
  match l, h with
  | x :: l, _ =>
    obtain ⟨h1, h2, h3⟩ := maxL_spec l x
    refine ⟨?_, fun y hy => ?_⟩
    · show maxL l x ∈ x :: l
      rcases h1 with h1 | h1
      · rw [h1]; exact List.mem_cons_self ..
      · exact List.mem_cons_of_mem _ h1
    · rcases List.mem_cons.mp hy with rfl | hy
      · exact h2
      · exact h3 y hy
/-! ### sizes -/
/-- the parts of a sum of this law -/
structure BOk (s : Bsum) : Prop where
  w : WQ 2 2 2 s.w
  b : SzF 2 s.b
  b0 : s.b.num ≠ 0
  c1 : 1 ≤ s.ch
  fs : s.ch + s.ri + s.ce ≤ 2
theorem zq_q1 : ZQ 0 1 1 q1 := zq_mkQ (by simp) fun x hx => by rw [List.mem_singleton.mp hx]; exact zp_p1
theorem zq_nil (a L M : Nat) : ZQ a L M [] := ⟨Nat.zero_le _, fun p hp => by cases hp⟩
theorem zq_line2 {x y z : Int} (hx : lg x ≤ 2) (hy : lg y ≤ 2) (hz : lg z ≤ 2) : ZQ 2 2 2 (qLine x y z) := zq_line hx hy hz
theorem prod_sz {l : List Q2} (hl : l.length ≤ 2) (h : ∀ x ∈ l, ZQ 2 2 2 x) : ∀ i, i ≤ l.length → ZQ 42 5 5 (qProdN l i) := by
  have hg : ∀ i, ZQ 2 2 2 (l.getD i []) := fun i => by
    rw [List.getD_eq_getElem?_getD]
    cases e : l[i]? with
    | none => exact zq_nil 2 2 2
    | some x => exact h x (List.mem_of_getElem? e)
  have h1 : ZQ 6 3 3 (qProdN l 1) := zq_mul zq_q1 (hg 0)
  have h2 : ZQ 42 5 5 (qProdN l 2) := zq_mul h1 (hg 1)
  intro i hi
  match i, hi with
  | 0, _ => exact zq_q1.mono (by decide) (by decide) (by decide)
  | 1, _ => exact h1.mono (by decide) (by decide) (by decide)
  | 2, _ => exact h2
  | n + 3, hi => omega
theorem prod_get {l : List Q2} (h : ∀ x ∈ l, ZQ 2 2 2 x) (i : Nat) : ZQ 2 2 2 (l.getD i []) := by
  rw [List.getD_eq_getElem?_getD]
  cases e : l[i]? with
  | none => exact zq_nil 2 2 2
  | some x => exact h x (List.mem_of_getElem? e)
theorem pow2_sz {a L M : Nat} {x : Q2} (h : ZQ a L M x) : ∀ i, i ≤ 2 → ZQ ((1 + M) * (2 * a + L + 8)) (1 + 2 * L) (1 + 2 * M) (qPow x i) := by
  have h1 : ZQ (1 * (0 + a + 1 + 3)) (1 + L) (1 + M) (qPow x 1) := zq_mul zq_q1 h
  have h2 := zq_mul h1 h
  intro i hi
  match i, hi with
  | 0, _ => exact zq_q1.mono (Nat.zero_le _) (by omega) (by omega)
  | 1, _ =>
    refine h1.mono ?_ (by omega) (by omega)
    have : 1 * (0 + a + 1 + 3) ≤ 1 * (2 * a + L + 8) := by omega
    exact Nat.le_trans this (Nat.mul_le_mul_right _ (by omega))
  | 2, _ => exact ZQ.mono h2 (Nat.mul_le_mul_left _ (by omega)) (by omega) (by omega)
  | n + 3, hi => omega
/-- the size of the powers of a line -/
def lbS : Nat → Nat
  | 0 => 0
  | n + 1 => (1 + 2 * n) * (lbS n + 2 + (1 + 2 * n) + 3)
theorem lpow_n {x : Q2} (h : ZQ 2 2 2 x) : ∀ n, ZQ (lbS n) (1 + 2 * n) (1 + 2 * n) (qPow x n)
  | 0 => zq_q1
  | n + 1 => (zq_mul (lpow_n h n) h).mono (Nat.le_refl _) (by omega) (by omega)
theorem lbS_le : ∀ i, i ≤ 6 → lbS i ≤ 200000 := by decide
theorem lpow_sz {x : Q2} (h : ZQ 2 2 2 x) (i : Nat) (hi : i ≤ 6) : ZQ 200000 13 13 (qPow x i) := (lpow_n h i).mono (lbS_le i hi) (by omega) (by omega)
theorem lg_small {x : Int} (h : -7 ≤ x) (h2 : x ≤ 7) : lg x ≤ 2 := lg_lt (by omega)
theorem lns_len (a b : Int) (lo n : Nat) : (lns a b lo n).length = n := by unfold lns; rw [List.length_map, List.length_range]
theorem lns_sz {a b : Int} {lo n : Nat} (ha : -7 ≤ a ∧ a ≤ 7) (hb : -7 ≤ b ∧ b ≤ 7) (h : lo + n ≤ 5) : ∀ x ∈ lns a b lo n, ZQ 2 2 2 x := fun x hx => by
  obtain ⟨t, ht, rfl⟩ := List.mem_map.mp hx
  have := List.mem_range.mp ht
  exact zq_line2 (lg_small ha.1 ha.2) (lg_small hb.1 hb.2) (lg_small (by omega) (by omega))
theorem colCh_len {J j : Nat} (h : j ≤ J) : (colCh J j).length = J := by unfold colCh; rw [List.length_append, lns_len, lns_len]; omega
theorem colRi_len {J j : Nat} (h : j ≤ J) : (colRi J j).length = J := by unfold colRi; rw [List.length_append, lns_len, lns_len]; omega
theorem colCh_sz {J j : Nat} (h : j ≤ J) (hJ : J ≤ 2) : ∀ x ∈ colCh J j, ZQ 2 2 2 x := fun x hx => by
  rcases List.mem_append.mp hx with hx | hx
  · exact lns_sz (by decide) (by decide) (by omega) x hx
  · exact lns_sz (by decide) (by decide) (by omega) x hx
theorem colRi_sz {J j : Nat} (h : j ≤ J) (hJ : J ≤ 2) : ∀ x ∈ colRi J j, ZQ 2 2 2 x := fun x hx => by
  rcases List.mem_append.mp hx with hx | hx
  · exact lns_sz (by decide) (by decide) (by omega) x hx
  · exact lns_sz (by decide) (by decide) (by omega) x hx
section
variable {s : Bsum} {J j : Nat}
theorem chP_sz (hJ : J ≤ 2) (hj : j ≤ J) : ZQ 42 5 5 (qProd (colCh J j)) := prod_sz (by rw [colCh_len hj]; exact hJ) (colCh_sz hj hJ) _ (Nat.le_refl _)
theorem riP_sz (hJ : J ≤ 2) (hj : j ≤ J) : ZQ 42 5 5 (qProd (colRi J j)) := prod_sz (by rw [colRi_len hj]; exact hJ) (colRi_sz hj hJ) _ (Nat.le_refl _)
theorem moved_sz (h : BOk s) (hj : j ≤ 2) : WQ 26 2 2 (qMoved s.w (j : Int) 0) := (wq_moved (b := 1) h.w (lg_lt (by omega)) (by decide)).mono (by decide) (by decide) (by decide)
theorem col1_sz (h : BOk s) (hJ : J ≤ 2) (hj : j ≤ J) : ZQ 1226 13 13 (qMul (qMoved s.w (j : Int) 0) (qPow (qProd (colCh J j)) s.ch)) := by
  have := h.fs
  exact zq_mul (moved_sz h (by omega)).z (pow2_sz (chP_sz hJ hj) s.ch (by omega))
theorem column_sz (h : BOk s) (hJ : J ≤ 2) (hj : j ≤ J) : ZQ 23712 24 24 (column s J j) := by
  have := h.fs
  exact zq_mul (col1_sz h hJ hj) (pow2_sz (riP_sz hJ hj) s.ri (by omega))
theorem fw1_sz (h : BOk s) (hJ : J ≤ 2) : ZQ 49 6 6 (qMul (qInN (pConst s.b)) (qPow (qLine 1 (-1) (J : Int)) s.ch)) := by
  have := h.fs
  have h0 : ZQ 2 1 1 (qInN (pConst s.b)) := zq_inN ⟨sz_pConst h.b, Nat.le_trans (len_mkP_le _ _) (Nat.le_refl _)⟩
  exact (zq_mul h0 (pow2_sz (zq_line2 (lg_small (by decide) (by decide)) (lg_small (by decide) (by decide)) (lg_small (by omega) (by omega))) s.ch (by omega))).mono (by decide) (by decide) (by decide)
theorem fw2_sz (h : BOk s) (hJ : J ≤ 2) : ZQ 600 11 11 (qMul (qMul (qInN (pConst s.b)) (qPow (qLine 1 (-1) (J : Int)) s.ch)) (qPow (qLine 1 1 1) s.ri)) := by
  have := h.fs
  exact (zq_mul (fw1_sz h hJ) (pow2_sz (zq_line2 (lg_small (by decide) (by decide)) (lg_small (by decide) (by decide)) (lg_small (by decide) (by decide))) s.ri (by omega))).mono (by decide) (by decide) (by decide)
theorem forward_sz (h : BOk s) (hJ : J ≤ 2) : ZQ 7216 16 16 (forward s J) := by
  have := h.fs
  exact (zq_mul (fw2_sz h hJ) (pow2_sz (zq_line2 (lg_small (by decide) (by decide)) (lg_small (by decide) (by decide)) (lg_small (by decide) (by decide))) s.ce (by omega))).mono (by decide) (by decide) (by decide)
theorem backward_sz (h : BOk s) : ZQ 42 5 5 (backward s) := pow2_sz (zq_line2 (lg_small (by decide) (by decide)) (lg_small (by decide) (by decide)) (lg_small (by decide) (by decide))) _ h.fs
theorem l0_sz : ZQ 2 2 2 (qLine 0 1 0) := zq_line2 (lg_small (by decide) (by decide)) (lg_small (by decide) (by decide)) (lg_small (by decide) (by decide))
theorem l1_sz : ZQ 2 2 2 (qLine 0 1 1) := zq_line2 (lg_small (by decide) (by decide)) (lg_small (by decide) (by decide)) (lg_small (by decide) (by decide))
theorem mp1_sz (h : BOk s) {i : Nat} (hi : i ≤ 6) : ZQ 1000250 18 18 (qMul (backward s) (qPow (qLine 0 1 0) i)) := zq_mul (backward_sz h) (lpow_sz l0_sz i hi)
theorem mp2_sz (h : BOk s) (hJ : J ≤ 2) {i : Nat} (hi : i ≤ 6) : ZQ 3315760 29 29 (qMul (forward s J) (qPow (qLine 0 1 1) i)) := zq_mul (forward_sz h hJ) (lpow_sz l1_sz i hi)
theorem mpiece_sz (h : BOk s) (hJ : J ≤ 2) {i : Nat} (hi : i ≤ 6) : ZQ 4316012 29 29 (mpiece s J i) := (zq_sub (mp1_sz h hi) (mp2_sz h hJ hi)).mono (by decide) (by decide) (by decide)
end
end G
end
section
/-! The mirror of certificates and the checker. -/
namespace G
inductive Cert where
  | no (J N : Nat) (m : Mx)
  | tel (J : Nat) (op : List Po) (m : Q2)
def pkVec (s : Bsum) (J c : Nat) : List Po := kvP (pkN (eqRows s J) c).t c (pkN (eqRows s J) c).last (eqW s J)
def certOf (s : Bsum) (J : Nat) : PA → Cert
  | .pt N m => .no J N m
  | .vec c => .tel J (mkQ ((pkVec s J c).take (J + 1))) (mkQ ((pkVec s J c).drop (J + 1)))
def isRec : Cert → Bool
  | .no _ _ _ => false
  | .tel _ _ _ => true
def totN (s : Bsum) (J : Nat) (op : List Po) (n : Nat) : Q2 := loop (fun j t => qAdd t (qMul (qInN (qRow op j)) (column s J j))) n (mkQ [])
def rhs (s : Bsum) (J : Nat) (m : Q2) : Q2 := qSub (qMul (forward s J) (qMoved m 0 1)) (qMul (backward s) m)
/-- what the checker needs of a telescoper -/
structure TelOk (s : Bsum) (J : Nat) (op : List Po) (m : Q2) : Prop where
  b : BOk s
  J2 : J ≤ 2
  o1 : op.length ≠ 0
  o2 : op.length ≤ J + 1
  oz : ∀ p ∈ op, ZP 1000 40 p
  mz : WQ 1000 40 8 m
  eq : totN s J op (J + 1) = rhs s J m
theorem wRow_len (l : List Po) : (wRow l).length = l.length := by
  unfold wRow
  split
  · rfl
  · rw [List.length_map]
theorem dRow_len (l : List Po) : (dRow l).length = l.length := by
  unfold dRow
  split
  · rw [List.length_map]
  · rfl
theorem pRow_len (l : List Po) : (pRow l).length = l.length := by unfold pRow; rw [wRow_len, dRow_len]
theorem kvPIn_len' (t : PM) (c : Nat) (v : List Po) : ∀ n, (kvPIn t c n v).length = v.length
  | 0 => rfl
  | n + 1 => by
    show (List.set _ _ _).length = _
    rw [List.length_set]; exact kvPIn_len' t c v n
theorem kvP_len (t : PM) (c : Nat) (last : Po) (w : Nat) : (kvP t c last w).length = w := by
  unfold kvP kvP0
  rw [pRow_len, kvPIn_len', List.length_set, List.length_replicate]
section
variable {s : Bsum} {J : Nat} {op : List Po} {m : Q2}
theorem inN_sz (h : TelOk s J op m) (j : Nat) : ZQ 1000 40 1 (qInN (qRow op j)) := by
  refine zq_inN ?_
  unfold qRow
  split
  · exact zp_getD h.oz j
  · exact zp_p0.mono (Nat.zero_le _) (Nat.zero_le _)
theorem term_sz (h : TelOk s J op m) {j : Nat} (hj : j ≤ J) : ZQ 24755 64 25 (qMul (qInN (qRow op j)) (column s J j)) := (zq_mul (inN_sz h j) (column_sz h.b h.J2 hj)).mono (by decide) (by decide) (by decide)
theorem totN_sz (h : TelOk s J op m) : ∀ n, n ≤ J + 1 → ZQ (n * 24757) 64 25 (totN s J op n)
  | 0, _ => zq_nil _ _ _
  | n + 1, hn => (zq_add (totN_sz h n (by omega)) (term_sz h (j := n) (by omega))).mono (by omega) (by decide) (by decide)
theorem mv_sz (h : TelOk s J op m) : ZQ 10000 40 8 (qMoved m 0 1) := (wq_moved (b := 0) h.mz (by decide) (by decide)).z.mono (by decide) (by decide) (by decide)
theorem r1_sz (h : TelOk s J op m) : ZQ 300000 56 24 (qMul (forward s J) (qMoved m 0 1)) := (zq_mul (forward_sz h.b h.J2) (mv_sz h)).mono (by decide) (by decide) (by decide)
theorem r2_sz (h : TelOk s J op m) : ZQ 300000 45 13 (qMul (backward s) m) := (zq_mul (backward_sz h.b) h.mz.z).mono (by decide) (by decide) (by decide)
end
end G
end
section
/-! The mirror of the law. -/
namespace G
structure LNs where
  ns : List Int
  rest : Int
def lCell (sc : List Int) (k : Nat) : Int := if sc.length > 0 then sc.getD (k % sc.length) 0 + 7919 * (k : Int) else 13
def lMix (c : Int) : Int := ((((c * 48271).fmod 2147483647) * 69621).fmod 2147483629).fmod 1000000
def lStep (sc : List Int) (bd : Bool) (k : Nat) (s : LNs) : LNs := if (bd && decide (s.rest > 0)) = true then ⟨s.ns ++ [s.rest.fmod 1000000], s.rest.fdiv 1000000⟩ else ⟨s.ns ++ [lMix (lCell sc k)], s.rest⟩
def lFirst (sc : List Int) : Int := if sc.length > 0 then sc.getD 0 0 else 0
def lBd (sc : List Int) : Bool := decide (lFirst sc ≥ 1000000000000000000)
def lNsN (sc : List Int) (n : Nat) : LNs := loop (lStep sc (lBd sc)) n ⟨[], lFirst sc⟩
def lNums (sc : List Int) (n : Nat) : List Int := (lNsN sc n).ns
theorem lNsN_len (sc : List Int) : ∀ n, (lNsN sc n).ns.length = n
  | 0 => rfl
  | n + 1 => by
    have ih := lNsN_len sc n
    show (lStep sc (lBd sc) n (lNsN sc n)).ns.length = n + 1
    unfold lStep
    split <;> (show (_ ++ [_]).length = _; rw [List.length_append, ih]; rfl)
structure Parts where
  wt : List (List Int)
  num : Int
  den : Int
  ch : Nat
  ri : Nat
  ce : Nat
def pCh (n0 : Int) : Nat := if n0.fmod 4 = 1 then 2 else 1
def pRi (n0 : Int) : Nat := if pCh n0 = 1 ∧ (n0.fdiv 4).fmod 3 = 1 then 1 else 0
def pCe (n0 : Int) : Nat := if pCh n0 = 1 ∧ (n0.fdiv 4).fmod 3 = 2 then 1 else 0
def pNum (n0 n1 n2 : Int) : Int := if n2.fmod 2 = 1 then powI (-1) (pCh n0) else if n1.fmod 9 - 4 = 0 then 1 else n1.fmod 9 - 4
def pDen (n0 n1 n2 : Int) : Int := if n2.fmod 2 = 1 then powI 4 (pCe n0) else (n1.fdiv 9).fmod 3 + 1
def pWt0 (n3 n4 : Int) : List (List Int) := [[n3.fmod 7 - 3, (n3.fdiv 7).fmod 7 - 3], [n4.fmod 7 - 3, (n4.fdiv 7).fmod 3 - 1]]
def pWt (n2 n3 n4 : Int) : List (List Int) := if (n2.fdiv 2).fmod 2 = 1 then (if pWt0 n3 n4 = [[0, 0], [0, 0]] then [[0], [1]] else pWt0 n3 n4) else [[1]]
def lParts (l : List Int) : Parts := ⟨pWt (l.getD 2 0) (l.getD 3 0) (l.getD 4 0), pNum (l.getD 0 0) (l.getD 1 0) (l.getD 2 0), pDen (l.getD 0 0) (l.getD 1 0) (l.getD 2 0), pCh (l.getD 0 0), pRi (l.getD 0 0), pCe (l.getD 0 0)⟩
def lMade (p : Parts) : Bsum := ⟨mkQ (p.wt.map fun r => mkP r 1), mkF p.num p.den, p.ch, p.ri, p.ce⟩
structure MadeOk (p : Parts) : Prop where
  den : p.den ≠ 0
  num : (mkF p.num p.den).num ≠ 0
  wt : (mkQ (p.wt.map fun r => mkP r 1)).length ≠ 0
  ch : 1 ≤ p.ch
  wl : p.wt.length ≤ 1000
  rl : ∀ r ∈ p.wt, r.length ≤ 1000
def certJ : Cert → Nat
  | .no J _ _ => J
  | .tel J _ _ => J
theorem certJ_of (s : Bsum) (J : Nat) (a : PA) : certJ (certOf s J a) = J := by cases a <;> rfl
end G
end
section
set_option maxRecDepth 100000
set_option maxHeartbeats 4000000
namespace G
open PySem PySem.Spec PyProof.Rows L2 He
open _root_.RT (ItvT iRevA pi_revA)
section
variable {P : Program} {w : World} {K : Frag} {mg : Str → Option Value} {base : Heap}
/-- what holds of the run -/
structure En (P : Program) (K : Frag) (mg : Str → Option Value) (base : Heap) : Prop where
  T : Tx K mg
  S : SaysX fa fn K
  ns : base.NoSeer
  tr : P.given.tree = none
abbrev RF (K : Frag) (f : Fr) : Rp := RN (cA K "Fraction") ["num", "den"] [RI f.num, RI f.den]
section
variable {Γ : List Ty} {ta tb te : TE} {R Ra Rb : Rp} {i j : Int} {b c : Bool} {F0 H0 : Hp} {D : Ends} {tz tu tw : TS} {tt : TT} {f : Fr}
theorem has_Fn : HasF (RF K f) (cA K "Fraction") "num" (RI f.num) := rn_has 0 (by decide) rfl rfl
theorem has_Fd : HasF (RF K f) (cA K "Fraction") "den" (RI f.den) := rn_has 1 (by decide) rfl rfl
theorem ev_Fn (T : Tx K mg) (h : EV Γ ta (RF K f)) : EV Γ (tFld K ta "num") (RI f.num) := ev_fld h has_Fn T.c_F T.na_F_num
theorem ev_Fd (T : Tx K mg) (h : EV Γ ta (RF K f)) : EV Γ (tFld K ta "den") (RI f.den) := ev_fld h has_Fd T.c_F T.na_F_den
theorem et_eqI (ha : EV Γ ta (RI i)) (hb : EV Γ tb (RI j)) : ET Γ (tTest (tOp rEq ta tb)) (decide (i = j)) :=
  (et_test (ev_eq ha hb rfl)).is (by rw [Bool.eq_iff_iff]; simp)
theorem ev_eqI (ha : EV Γ ta (RI i)) (hb : EV Γ tb (RI j)) : EV Γ (tOp rEq ta tb) (RB (decide (i = j))) :=
  (ev_eq ha hb rfl).k (by congr 1; rw [Bool.eq_iff_iff]; simp)
theorem et_neI (ha : EV Γ ta (RI i)) (hb : EV Γ tb (RI j)) : ET Γ (tTest (tOp rNe ta tb)) (!decide (i = j)) :=
  (et_test (ev_ne ha hb rfl)).is (by rw [Bool.eq_iff_iff]; simp)
theorem et_I {p : Int → Int → Bool} (ha : EV Γ ta (RI i)) (hb : EV Γ tb (RI j)) : ET Γ (tTest (tOp (rI0 fun i j => .bl (p i j)) ta tb)) (p i j) := et_test (ev_I ha hb)
theorem cmul {a b : Nat} (h1 : lg i ≤ a) (h2 : lg j ≤ b) (h : a + b < 130000000) : CMulB i j := by
  unfold CMulB
  unfold lg at h1 h2
  omega
theorem ev_mul (ha : EV Γ ta (RI i)) (hb : EV Γ tb (RI j)) (hc : CMulB i j) : EV Γ (tOp rMulB ta tb) (RI (i * j)) := ev_IC ha hb hc
theorem ev_fdv (ha : EV Γ ta (RI i)) (hb : EV Γ tb (RI j)) (hc : j ≠ 0) : EV Γ (tOp rFdiv ta tb) (RI (i.fdiv j)) := ev_IC ha hb hc
theorem ev_add (ha : EV Γ ta (RI i)) (hb : EV Γ tb (RI j)) : EV Γ (tOp (rI0 fun i j => .int (i + j)) ta tb) (RI (i + j)) := ev_I ha hb
theorem ev_sub (ha : EV Γ ta (RI i)) (hb : EV Γ tb (RI j)) : EV Γ (tOp (rI0 fun i j => .int (i - j)) ta tb) (RI (i - j)) := ev_I ha hb
theorem ev_neg (ha : EV Γ ta (RI i)) : EV Γ (tUn (rU fun i => .int (-i)) ta) (RI (-i)) := ev_U ha
theorem ev_i (h : EV Γ te (RI i)) (e : i = j) : EV Γ te (RI j) := by rw [← e]; exact h
theorem et_is (h : ET Γ tt b) (e : b = c) : ET Γ tt c := by rw [← e]; exact h
theorem ev_b (h : EV Γ te (RB b)) (e : b = c) : EV Γ te (RB c) := by rw [← e]; exact h
/-- a promise of a family, kept -/
theorem sp_of {ι : Type} {hy : ι → Prop} {A : ι → List Rp} {B : ι → Rp} (i : ι) (h : hy i) : ∀ vs H Q E, SpF (A i) (B i) vs H Q E → SpG hy A B vs H Q E := fun _ _ _ _ q => ⟨i, h, q⟩
theorem spI_of {ι : Type} {C : Addr} {hy : ι → Prop} {A : ι → List Rp} {B : ι → Rp} (i : ι) (h : hy i) : ∀ vs H Q E, SpInit C (A i) (B i) vs H Q E → SpI C hy A B vs H Q E := fun _ _ _ _ q => ⟨i, h, q⟩
end
abbrev sn_Fi : List Str := ["self", "num", "den", "divisor"]
theorem sc_Fi : FnScope sn_Fi ["self", "num", "den"] (defScope s_Fi) := ⟨rfl, rfl, rfl, by decide +kernel, rfl, by decide +kernel, by decide +kernel⟩
abbrev sp_Fi (K : Frag) : Sp := SpI (ι := Int × Int) (cA K "Fraction") (fun p => p.2 ≠ 0) (fun p => [RI p.1, RI p.2]) (fun p => RF K (mkF p.1 p.2))
theorem us_Fi {K : Frag} (i : Int × Int) (h : (fun p => p.2 ≠ 0) i) : ∀ vs H Q E, SpInit (cA K "Fraction") ((fun p => [RI p.1, RI p.2]) i) ((fun p => RF K (mkF p.1 p.2)) i) vs H Q E → sp_Fi K vs H Q E := fun _ _ _ _ q => ⟨i, h, q⟩
abbrev Fn_Fi (P : Program) (w : World) (K : Frag) (mg : Str → Option Value) (base : Heap) : Prop := ∃ fd, DefF K "__init__" "Fraction.__init__" s_Fi [.int 1] [] (mA K "Fraction" "__init__") fd ∧ FnOk P w K mg base CX0 41 (mA K "Fraction" "__init__") fd ["self", "num", "den"] (sp_Fi K)
theorem fn_Fi (N : En P K mg base) : Fn_Fi P w K mg base := by
  obtain ⟨T, S, ns, tr⟩ := N
  obtain ⟨fd, F⟩ := S.def_ 0
  refine ⟨fd, F, def_okI F sc_Fi (fun _ => rfl) fun cdv A' outer s H E hr => ⟨_, (pss_cons (ps_if (pt_cmpR op_eq (pv 2) pe_int (nomark _)) (pss_one ps_never) pss_nil)
      (pss_cons (ps_set (i := 3) sc_Fi.nd rfl (Or.inl rfl) (pe_callBfun cr_gcd rfl T.b_gcd (pa_cons (pv 1) (pa_cons (pv 2) pa_nil))))
      (pss_cons (ps_if (pt_cmpR op_lt (pv 2) pe_int (nomark _)) (pss_one (ps_set (i := 3) sc_Fi.nd rfl (Or.inl rfl) (pe_un un_neg (pv 3)))) pss_nil)
      (pss_cons (ps_fld (pv 0) (pe_op (op_fdivP (qu_of ns tr sc_Fi) hr (by decide)) (pv 1) (pv 3)) rfl)
      (pss_one (ps_fld (pv 0) (pe_op (op_fdivP (qu_of ns tr sc_Fi) hr (by decide)) (pv 2) (pv 3)) rfl)))))), fun i hy F0 H0 Q a dx q => ?_⟩⟩
  obtain ⟨n, d⟩ := i
  replace hy : d ≠ 0 := hy
  have hg : sgnd (gcdI n d) d ≠ 0 := sgnd_ne (gcdI_ne hy)
  refine q_skip (et_is (et_eqI (ev_var rfl) ev_c) (decide_eq_false hy)) ?_
  refine q_asg (ev_gcd (ev_var rfl) (ev_var rfl)) ?_
  have rest : SJ F0 H0 { nx := fun _ H' => Q .non H', rt := Q } [.mk (cA K "Fraction") dx a [] [], .fz (RI n), .fz (RI d), .fz (RI (sgnd (gcdI n d) d))] (tSeq (sFld K (tVar 0) (tOp rFdiv (tVar 1) (tVar 3)) "num") (sFld K (tVar 0) (tOp rFdiv (tVar 2) (tVar 3)) "den")) := by
    refine q_fld rfl (ev_fdv (ev_var rfl) (ev_var rfl) hg) T.c_F T.na_F_num (by simp) rfl fun v => ?_
    refine sj_fld rfl (ev_fdv (ev_var rfl) (ev_var rfl) hg) T.c_F T.na_F_den (by simp) rfl fun v2 => ?_
    exact nx_made (i := 0) (ns := ["num", "den"]) rfl rfl q
  refine q_if (et_I (ev_var rfl) ev_c) (fun hb => sj_asg (ev_i (ev_neg (ev_var rfl)) ?_) rest) (fun hb => sj_next ?_)
  · show -gcdI n d = sgnd (gcdI n d) d
    unfold sgnd
    rw [if_pos (of_decide_eq_true hb)]
  · have e : sgnd (gcdI n d) d = gcdI n d := by
      unfold sgnd
      rw [if_neg (of_decide_eq_false hb)]
    rw [e] at rest
    exact rest
abbrev Pr_Fi (P : Program) (w : World) (K : Frag) (mg : Str → Option Value) (base : Heap) : Prop := Pr P w K mg base 41 (mA K "Fraction" "__init__") ["self", "num", "den"] [] (sp_Fi K)
theorem ok_Fi (N : En P K mg base) : Pr_Fi P w K mg base := by
  obtain ⟨fd, F, h⟩ := fn_Fi (w := w) N
  obtain ⟨ds, e, b⟩ := F.binds1 (ps := ["self", "num", "den"]) 3 1 (by decide) rfl fun T kV doc pm an cdv ct us its h1 h2 => match us, its, h1, h2 with | [_, _, _], [_], _, _ => ⟨_, rfl, rfl⟩
  exact ⟨fd, ds, h, b, e, F.kp⟩
abbrev Pr_Fi1 (P : Program) (w : World) (K : Frag) (mg : Str → Option Value) (base : Heap) : Prop := Pr P w K mg base 41 (mA K "Fraction" "__init__") ["self", "num", "den"] [.int 1] (sp_Fi K)
theorem ok_Fi1 (N : En P K mg base) : Pr_Fi1 P w K mg base := by
  obtain ⟨fd, F, h⟩ := fn_Fi (w := w) N
  obtain ⟨ds, e, b⟩ := F.binds1 (ps := ["self", "num", "den"]) 2 0 (by decide) rfl fun T kV doc pm an cdv ct us its h1 h2 => match us, its, h1, h2 with | [_, _], [_], _, _ => ⟨_, rfl, rfl⟩
  exact ⟨fd, ds, h, b, e, F.kp⟩
abbrev sn_Fz : List Str := ["self"]
theorem sc_Fz : FnScope sn_Fz ["self"] (defScope s_Fz) := ⟨rfl, rfl, rfl, by decide +kernel, rfl, by decide +kernel, by decide +kernel⟩
abbrev sp_Fz (K : Frag) : Sp := SpG (ι := Fr) (fun _ => True) (fun f => [RF K f]) (fun f => RB (decide (f.num = 0)))
theorem us_Fz {K : Frag} (i : Fr) (h : (fun _ => True) i) : ∀ vs H Q E, SpF ((fun f => [RF K f]) i) ((fun f => RB (decide (f.num = 0))) i) vs H Q E → sp_Fz K vs H Q E := fun _ _ _ _ q => ⟨i, h, q⟩
abbrev Fn_Fz (P : Program) (w : World) (K : Frag) (mg : Str → Option Value) (base : Heap) : Prop := ∃ fd, DefF K "is_zero" "Fraction.is_zero" s_Fz [] [] (pA K "Fraction" "is_zero") fd ∧ FnOk P w K mg base CX0 41 (pA K "Fraction" "is_zero") fd ["self"] (sp_Fz K)
theorem fn_Fz (N : En P K mg base) : Fn_Fz P w K mg base := by
  obtain ⟨T, S, ns, tr⟩ := N
  obtain ⟨fd, F⟩ := S.def_ 1
  refine ⟨fd, F, def_ok F sc_Fz (fun _ => rfl) fun cdv A' outer s H E hr => ⟨_, (pss_one (ps_ret (pe_cmpR op_eq (pe_fld (pv 0) rfl) pe_int (nomark _)))), fun i hy F0 H0 Q q => ?_⟩⟩
  exact sj_ret (ev_eqI (ev_Fn T (ev_var rfl)) ev_c) q
abbrev Pr_Fz (P : Program) (w : World) (K : Frag) (mg : Str → Option Value) (base : Heap) : Prop := Pr P w K mg base 41 (pA K "Fraction" "is_zero") ["self"] [] (sp_Fz K)
theorem ok_Fz (N : En P K mg base) : Pr_Fz P w K mg base := by
  obtain ⟨fd, F, h⟩ := fn_Fz (w := w) N
  exact pr_mk F h (F.bindsN fun _ _ _ _ _ _ us hl => match us, hl with | [_], _ => rfl)
abbrev sn_Feq : List Str := ["self", "other"]
theorem sc_Feq : FnScope sn_Feq ["self", "other"] (defScope s_Feq) := ⟨rfl, rfl, rfl, by decide +kernel, rfl, by decide +kernel, by decide +kernel⟩
abbrev sp_Feq (K : Frag) : Sp := SpG (ι := Fr × Fr) (fun _ => True) (fun p => [RF K p.1, RF K p.2]) (fun p => RB (decide (p.1 = p.2)))
theorem us_Feq {K : Frag} (i : Fr × Fr) (h : (fun _ => True) i) : ∀ vs H Q E, SpF ((fun p => [RF K p.1, RF K p.2]) i) ((fun p => RB (decide (p.1 = p.2))) i) vs H Q E → sp_Feq K vs H Q E := fun _ _ _ _ q => ⟨i, h, q⟩
abbrev Fn_Feq (P : Program) (w : World) (K : Frag) (mg : Str → Option Value) (base : Heap) : Prop := ∃ fd, DefF K "__eq__" "Fraction.__eq__" s_Feq [] [] (mA K "Fraction" "__eq__") fd ∧ FnOk P w K mg base CX0 41 (mA K "Fraction" "__eq__") fd ["self", "other"] (sp_Feq K)
theorem fn_Feq (N : En P K mg base) : Fn_Feq P w K mg base := by
  obtain ⟨T, S, ns, tr⟩ := N
  obtain ⟨fd, F⟩ := S.def_ 2
  refine ⟨fd, F, def_ok F sc_Feq (fun _ => rfl) fun cdv A' outer s H E hr => ⟨_, (pss_one (ps_ret (pe_and (pe_callB call_isi (by rfl) T.n_isinstance bt_isi (pa_cons (pv 1) (pa_cons (pe_glob rfl T.g_F (show RelV (V.ref _) _ from rfl)) pa_nil))) (pe_and (pe_cmpR op_eq (pe_fld (pv 0) rfl) (pe_fld (pv 1) rfl) (nomark _)) (pe_one (pe_cmpR op_eq (pe_fld (pv 0) rfl) (pe_fld (pv 1) rfl) (nomark _))))))), fun i hy F0 H0 Q q => ?_⟩⟩
  obtain ⟨⟨n, d⟩, ⟨m, e⟩⟩ := i
  refine sj_ret (ev_b (ev_andV (ev_isi (ev_var rfl) (rn_no (by decide)) T.c_F T.i_F) fun _ => ev_andV (ev_eqI (ev_Fn T (ev_var rfl)) (ev_Fn T (ev_var rfl))) fun _ => ev_eqI (ev_Fd T (ev_var rfl)) (ev_Fd T (ev_var rfl))) ?_) q
  rw [Bool.eq_iff_iff]
  simp
abbrev Pr_Feq (P : Program) (w : World) (K : Frag) (mg : Str → Option Value) (base : Heap) : Prop := Pr P w K mg base 41 (mA K "Fraction" "__eq__") ["self", "other"] [] (sp_Feq K)
theorem ok_Feq (N : En P K mg base) : Pr_Feq P w K mg base := by
  obtain ⟨fd, F, h⟩ := fn_Feq (w := w) N
  exact pr_mk F h (F.bindsN fun _ _ _ _ _ _ us hl => match us, hl with | [_, _], _ => rfl)
abbrev sn_Fadd : List Str := ["self", "other"]
theorem sc_Fadd : FnScope sn_Fadd ["self", "other"] (defScope s_Fadd) := ⟨rfl, rfl, rfl, by decide +kernel, rfl, by decide +kernel, by decide +kernel⟩
abbrev sp_Fadd (K : Frag) : Sp := SpG (ι := Fr × Fr) (fun p => ∃ a b, SzF a p.1 ∧ SzF b p.2 ∧ a + b < 130000000) (fun p => [RF K p.1, RF K p.2]) (fun p => RF K (fAdd p.1 p.2))
theorem us_Fadd {K : Frag} (i : Fr × Fr) (h : (fun p => ∃ a b, SzF a p.1 ∧ SzF b p.2 ∧ a + b < 130000000) i) : ∀ vs H Q E, SpF ((fun p => [RF K p.1, RF K p.2]) i) ((fun p => RF K (fAdd p.1 p.2)) i) vs H Q E → sp_Fadd K vs H Q E := fun _ _ _ _ q => ⟨i, h, q⟩
abbrev Fn_Fadd (P : Program) (w : World) (K : Frag) (mg : Str → Option Value) (base : Heap) : Prop := ∃ fd, DefF K "__add__" "Fraction.__add__" s_Fadd [] [] (mA K "Fraction" "__add__") fd ∧ FnOk P w K mg base CX0 43 (mA K "Fraction" "__add__") fd ["self", "other"] (sp_Fadd K)
theorem fn_Fadd (N : En P K mg base) : Fn_Fadd P w K mg base := by
  have h_Fi := ok_Fi (w := w) N
  obtain ⟨T, S, ns, tr⟩ := N
  obtain ⟨fd, F⟩ := S.def_ 3
  refine ⟨fd, F, def_ok F sc_Fadd (fun _ => rfl) fun cdv A' outer s H E hr => ⟨_, (pss_one (ps_ret (pe_makeP h_Fi hr (by decide) T.mk_F rfl T.g_F (pa_cons (pe_op op_add (pe_op op_mulB (pe_fld (pv 0) rfl) (pe_fld (pv 1) rfl)) (pe_op op_mulB (pe_fld (pv 1) rfl) (pe_fld (pv 0) rfl))) (pa_cons (pe_op op_mulB (pe_fld (pv 0) rfl) (pe_fld (pv 1) rfl)) pa_nil))))), fun i hy F0 H0 Q q => ?_⟩⟩
  obtain ⟨x, y⟩ := i
  obtain ⟨a, b, hx, hy, hs⟩ := hy
  exact sj_ret (ev_make (ea2 (ev_add (ev_mul (ev_Fn T (ev_var rfl)) (ev_Fd T (ev_var rfl)) (cmul hx.2.1 hy.2.2 hs)) (ev_mul (ev_Fn T (ev_var rfl)) (ev_Fd T (ev_var rfl)) (cmul hy.2.1 hx.2.2 (by omega))))
    (ev_mul (ev_Fd T (ev_var rfl)) (ev_Fd T (ev_var rfl)) (cmul hx.2.2 hy.2.2 hs))) (us_Fi (_, _) (mul_ne hx.1 hy.1))) q
abbrev Pr_Fadd (P : Program) (w : World) (K : Frag) (mg : Str → Option Value) (base : Heap) : Prop := Pr P w K mg base 43 (mA K "Fraction" "__add__") ["self", "other"] [] (sp_Fadd K)
theorem ok_Fadd (N : En P K mg base) : Pr_Fadd P w K mg base := by
  obtain ⟨fd, F, h⟩ := fn_Fadd (w := w) N
  exact pr_mk F h (F.bindsN fun _ _ _ _ _ _ us hl => match us, hl with | [_, _], _ => rfl)
abbrev sn_Fsub : List Str := ["self", "other"]
theorem sc_Fsub : FnScope sn_Fsub ["self", "other"] (defScope s_Fsub) := ⟨rfl, rfl, rfl, by decide +kernel, rfl, by decide +kernel, by decide +kernel⟩
abbrev sp_Fsub (K : Frag) : Sp := SpG (ι := Fr × Fr) (fun p => ∃ a b, SzF a p.1 ∧ SzF b p.2 ∧ a + b < 130000000) (fun p => [RF K p.1, RF K p.2]) (fun p => RF K (fSub p.1 p.2))
theorem us_Fsub {K : Frag} (i : Fr × Fr) (h : (fun p => ∃ a b, SzF a p.1 ∧ SzF b p.2 ∧ a + b < 130000000) i) : ∀ vs H Q E, SpF ((fun p => [RF K p.1, RF K p.2]) i) ((fun p => RF K (fSub p.1 p.2)) i) vs H Q E → sp_Fsub K vs H Q E := fun _ _ _ _ q => ⟨i, h, q⟩
abbrev Fn_Fsub (P : Program) (w : World) (K : Frag) (mg : Str → Option Value) (base : Heap) : Prop := ∃ fd, DefF K "__sub__" "Fraction.__sub__" s_Fsub [] [] (mA K "Fraction" "__sub__") fd ∧ FnOk P w K mg base CX0 43 (mA K "Fraction" "__sub__") fd ["self", "other"] (sp_Fsub K)
theorem fn_Fsub (N : En P K mg base) : Fn_Fsub P w K mg base := by
  have h_Fi := ok_Fi (w := w) N
  obtain ⟨T, S, ns, tr⟩ := N
  obtain ⟨fd, F⟩ := S.def_ 4
  refine ⟨fd, F, def_ok F sc_Fsub (fun _ => rfl) fun cdv A' outer s H E hr => ⟨_, (pss_one (ps_ret (pe_makeP h_Fi hr (by decide) T.mk_F rfl T.g_F (pa_cons (pe_op op_sub (pe_op op_mulB (pe_fld (pv 0) rfl) (pe_fld (pv 1) rfl)) (pe_op op_mulB (pe_fld (pv 1) rfl) (pe_fld (pv 0) rfl))) (pa_cons (pe_op op_mulB (pe_fld (pv 0) rfl) (pe_fld (pv 1) rfl)) pa_nil))))), fun i hy F0 H0 Q q => ?_⟩⟩
  obtain ⟨x, y⟩ := i
  obtain ⟨a, b, hx, hy, hs⟩ := hy
  exact sj_ret (ev_make (ea2 (ev_sub (ev_mul (ev_Fn T (ev_var rfl)) (ev_Fd T (ev_var rfl)) (cmul hx.2.1 hy.2.2 hs)) (ev_mul (ev_Fn T (ev_var rfl)) (ev_Fd T (ev_var rfl)) (cmul hy.2.1 hx.2.2 (by omega))))
    (ev_mul (ev_Fd T (ev_var rfl)) (ev_Fd T (ev_var rfl)) (cmul hx.2.2 hy.2.2 hs))) (us_Fi (_, _) (mul_ne hx.1 hy.1))) q
abbrev Pr_Fsub (P : Program) (w : World) (K : Frag) (mg : Str → Option Value) (base : Heap) : Prop := Pr P w K mg base 43 (mA K "Fraction" "__sub__") ["self", "other"] [] (sp_Fsub K)
theorem ok_Fsub (N : En P K mg base) : Pr_Fsub P w K mg base := by
  obtain ⟨fd, F, h⟩ := fn_Fsub (w := w) N
  exact pr_mk F h (F.bindsN fun _ _ _ _ _ _ us hl => match us, hl with | [_, _], _ => rfl)
abbrev sn_Fmul : List Str := ["self", "other"]
theorem sc_Fmul : FnScope sn_Fmul ["self", "other"] (defScope s_Fmul) := ⟨rfl, rfl, rfl, by decide +kernel, rfl, by decide +kernel, by decide +kernel⟩
abbrev sp_Fmul (K : Frag) : Sp := SpG (ι := Fr × Fr) (fun p => ∃ a b, SzF a p.1 ∧ SzF b p.2 ∧ a + b < 130000000) (fun p => [RF K p.1, RF K p.2]) (fun p => RF K (fMul p.1 p.2))
theorem us_Fmul {K : Frag} (i : Fr × Fr) (h : (fun p => ∃ a b, SzF a p.1 ∧ SzF b p.2 ∧ a + b < 130000000) i) : ∀ vs H Q E, SpF ((fun p => [RF K p.1, RF K p.2]) i) ((fun p => RF K (fMul p.1 p.2)) i) vs H Q E → sp_Fmul K vs H Q E := fun _ _ _ _ q => ⟨i, h, q⟩
abbrev Fn_Fmul (P : Program) (w : World) (K : Frag) (mg : Str → Option Value) (base : Heap) : Prop := ∃ fd, DefF K "__mul__" "Fraction.__mul__" s_Fmul [] [] (mA K "Fraction" "__mul__") fd ∧ FnOk P w K mg base CX0 43 (mA K "Fraction" "__mul__") fd ["self", "other"] (sp_Fmul K)
theorem fn_Fmul (N : En P K mg base) : Fn_Fmul P w K mg base := by
  have h_Fi := ok_Fi (w := w) N
  obtain ⟨T, S, ns, tr⟩ := N
  obtain ⟨fd, F⟩ := S.def_ 5
  refine ⟨fd, F, def_ok F sc_Fmul (fun _ => rfl) fun cdv A' outer s H E hr => ⟨_, (pss_one (ps_ret (pe_makeP h_Fi hr (by decide) T.mk_F rfl T.g_F (pa_cons (pe_op op_mulB (pe_fld (pv 0) rfl) (pe_fld (pv 1) rfl)) (pa_cons (pe_op op_mulB (pe_fld (pv 0) rfl) (pe_fld (pv 1) rfl)) pa_nil))))), fun i hy F0 H0 Q q => ?_⟩⟩
  obtain ⟨x, y⟩ := i
  obtain ⟨a, b, hx, hy, hs⟩ := hy
  exact sj_ret (ev_make (ea2 (ev_mul (ev_Fn T (ev_var rfl)) (ev_Fn T (ev_var rfl)) (cmul hx.2.1 hy.2.1 hs))
    (ev_mul (ev_Fd T (ev_var rfl)) (ev_Fd T (ev_var rfl)) (cmul hx.2.2 hy.2.2 hs))) (us_Fi (_, _) (mul_ne hx.1 hy.1))) q
abbrev Pr_Fmul (P : Program) (w : World) (K : Frag) (mg : Str → Option Value) (base : Heap) : Prop := Pr P w K mg base 43 (mA K "Fraction" "__mul__") ["self", "other"] [] (sp_Fmul K)
theorem ok_Fmul (N : En P K mg base) : Pr_Fmul P w K mg base := by
  obtain ⟨fd, F, h⟩ := fn_Fmul (w := w) N
  exact pr_mk F h (F.bindsN fun _ _ _ _ _ _ us hl => match us, hl with | [_, _], _ => rfl)
abbrev sn_Fneg : List Str := ["self"]
theorem sc_Fneg : FnScope sn_Fneg ["self"] (defScope s_Fneg) := ⟨rfl, rfl, rfl, by decide +kernel, rfl, by decide +kernel, by decide +kernel⟩
abbrev sp_Fneg (K : Frag) : Sp := SpG (ι := Fr) (fun f => f.den ≠ 0) (fun f => [RF K f]) (fun f => RF K (fNeg f))
theorem us_Fneg {K : Frag} (i : Fr) (h : (fun f => f.den ≠ 0) i) : ∀ vs H Q E, SpF ((fun f => [RF K f]) i) ((fun f => RF K (fNeg f)) i) vs H Q E → sp_Fneg K vs H Q E := fun _ _ _ _ q => ⟨i, h, q⟩
abbrev Fn_Fneg (P : Program) (w : World) (K : Frag) (mg : Str → Option Value) (base : Heap) : Prop := ∃ fd, DefF K "__neg__" "Fraction.__neg__" s_Fneg [] [] (mA K "Fraction" "__neg__") fd ∧ FnOk P w K mg base CX0 43 (mA K "Fraction" "__neg__") fd ["self"] (sp_Fneg K)
theorem fn_Fneg (N : En P K mg base) : Fn_Fneg P w K mg base := by
  have h_Fi := ok_Fi (w := w) N
  obtain ⟨T, S, ns, tr⟩ := N
  obtain ⟨fd, F⟩ := S.def_ 6
  refine ⟨fd, F, def_ok F sc_Fneg (fun _ => rfl) fun cdv A' outer s H E hr => ⟨_, (pss_one (ps_ret (pe_makeP h_Fi hr (by decide) T.mk_F rfl T.g_F (pa_cons (pe_un un_neg (pe_fld (pv 0) rfl)) (pa_cons (pe_fld (pv 0) rfl) pa_nil))))), fun i hy F0 H0 Q q => ?_⟩⟩
  exact sj_ret (ev_make (ea2 (ev_neg (ev_Fn T (ev_var rfl))) (ev_Fd T (ev_var rfl))) (us_Fi (_, _) hy)) q
abbrev Pr_Fneg (P : Program) (w : World) (K : Frag) (mg : Str → Option Value) (base : Heap) : Prop := Pr P w K mg base 43 (mA K "Fraction" "__neg__") ["self"] [] (sp_Fneg K)
theorem ok_Fneg (N : En P K mg base) : Pr_Fneg P w K mg base := by
  obtain ⟨fd, F, h⟩ := fn_Fneg (w := w) N
  exact pr_mk F h (F.bindsN fun _ _ _ _ _ _ us hl => match us, hl with | [_], _ => rfl)
abbrev sn_Fover : List Str := ["self", "other"]
theorem sc_Fover : FnScope sn_Fover ["self", "other"] (defScope s_Fover) := ⟨rfl, rfl, rfl, by decide +kernel, rfl, by decide +kernel, by decide +kernel⟩
abbrev sp_Fover (K : Frag) : Sp := SpG (ι := Fr × Fr) (fun p => ∃ a b, SzF a p.1 ∧ SzF b p.2 ∧ a + b < 130000000 ∧ p.2.num ≠ 0) (fun p => [RF K p.1, RF K p.2]) (fun p => RF K (fOver p.1 p.2))
theorem us_Fover {K : Frag} (i : Fr × Fr) (h : (fun p => ∃ a b, SzF a p.1 ∧ SzF b p.2 ∧ a + b < 130000000 ∧ p.2.num ≠ 0) i) : ∀ vs H Q E, SpF ((fun p => [RF K p.1, RF K p.2]) i) ((fun p => RF K (fOver p.1 p.2)) i) vs H Q E → sp_Fover K vs H Q E := fun _ _ _ _ q => ⟨i, h, q⟩
abbrev Fn_Fover (P : Program) (w : World) (K : Frag) (mg : Str → Option Value) (base : Heap) : Prop := ∃ fd, DefF K "over" "Fraction.over" s_Fover [] [] (mA K "Fraction" "over") fd ∧ FnOk P w K mg base CX0 43 (mA K "Fraction" "over") fd ["self", "other"] (sp_Fover K)
theorem fn_Fover (N : En P K mg base) : Fn_Fover P w K mg base := by
  have h_Fi := ok_Fi (w := w) N
  obtain ⟨T, S, ns, tr⟩ := N
  obtain ⟨fd, F⟩ := S.def_ 7
  refine ⟨fd, F, def_ok F sc_Fover (fun _ => rfl) fun cdv A' outer s H E hr => ⟨_, (pss_cons (ps_if (pt_cmpR op_eq (pe_fld (pv 1) rfl) pe_int (nomark _)) (pss_one ps_never) pss_nil)
      (pss_one (ps_ret (pe_makeP h_Fi hr (by decide) T.mk_F rfl T.g_F (pa_cons (pe_op op_mulB (pe_fld (pv 0) rfl) (pe_fld (pv 1) rfl)) (pa_cons (pe_op op_mulB (pe_fld (pv 0) rfl) (pe_fld (pv 1) rfl)) pa_nil)))))), fun i hy F0 H0 Q q => ?_⟩⟩
  obtain ⟨x, y⟩ := i
  obtain ⟨a, b, hx, hy, hs, h0⟩ := hy
  refine q_skip (et_is (et_eqI (ev_Fn T (ev_var rfl)) ev_c) (decide_eq_false h0)) ?_
  exact sj_ret (ev_make (ea2 (ev_mul (ev_Fn T (ev_var rfl)) (ev_Fd T (ev_var rfl)) (cmul hx.2.1 hy.2.2 hs))
    (ev_mul (ev_Fd T (ev_var rfl)) (ev_Fn T (ev_var rfl)) (cmul hx.2.2 hy.2.1 hs))) (us_Fi (_, _) (mul_ne hx.1 h0))) q
abbrev Pr_Fover (P : Program) (w : World) (K : Frag) (mg : Str → Option Value) (base : Heap) : Prop := Pr P w K mg base 43 (mA K "Fraction" "over") ["self", "other"] [] (sp_Fover K)
theorem ok_Fover (N : En P K mg base) : Pr_Fover P w K mg base := by
  obtain ⟨fd, F, h⟩ := fn_Fover (w := w) N
  exact pr_mk F h (F.bindsN fun _ _ _ _ _ _ us hl => match us, hl with | [_, _], _ => rfl)
abbrev sn_Fpow : List Str := ["self", "exponent", "num", "den", "result_num", "result_den", "_"]
theorem sc_Fpow : FnScope sn_Fpow ["self", "exponent"] (defScope s_Fpow) := ⟨rfl, rfl, rfl, by decide +kernel, rfl, by decide +kernel, by decide +kernel⟩
abbrev sp_Fpow (K : Frag) : Sp := SpG (ι := Fr × Nat) (fun p => p.2 ≤ 1000000 ∧ ∃ a, SzF a p.1 ∧ (p.2 + 1) * (a + 1) < 130000000) (fun p => [RF K p.1, RI (p.2 : Int)]) (fun p => RF K (fPow p.1 p.2))
theorem us_Fpow {K : Frag} (i : Fr × Nat) (h : (fun p => p.2 ≤ 1000000 ∧ ∃ a, SzF a p.1 ∧ (p.2 + 1) * (a + 1) < 130000000) i) : ∀ vs H Q E, SpF ((fun p => [RF K p.1, RI (p.2 : Int)]) i) ((fun p => RF K (fPow p.1 p.2)) i) vs H Q E → sp_Fpow K vs H Q E := fun _ _ _ _ q => ⟨i, h, q⟩
abbrev Fn_Fpow (P : Program) (w : World) (K : Frag) (mg : Str → Option Value) (base : Heap) : Prop := ∃ fd, DefF K "power" "Fraction.power" s_Fpow [] [] (mA K "Fraction" "power") fd ∧ FnOk P w K mg base CX0 43 (mA K "Fraction" "power") fd ["self", "exponent"] (sp_Fpow K)
theorem fn_Fpow (N : En P K mg base) : Fn_Fpow P w K mg base := by
  have h_Fi := ok_Fi (w := w) N
  obtain ⟨T, S, ns, tr⟩ := N
  obtain ⟨fd, F⟩ := S.def_ 8
  refine ⟨fd, F, def_ok F sc_Fpow (fun _ => rfl) fun cdv A' outer s H E hr => ⟨_, (pss_cons (ps_set (i := 2) sc_Fpow.nd rfl (Or.inl rfl) (pe_fld (pv 0) rfl))
      (pss_cons (ps_set (i := 3) sc_Fpow.nd rfl (Or.inl rfl) (pe_fld (pv 0) rfl))
      (pss_cons (ps_if (pt_cmpR op_lt (pv 1) pe_int (nomark _)) (pss_cons (ps_if (pt_cmpR op_eq (pv 2) pe_int (nomark _)) (pss_one ps_never) pss_nil)
      (pss_cons (ps_set (i := 2) sc_Fpow.nd rfl (Or.inl rfl) (pe_fld (pv 0) rfl))
      (pss_one (ps_set (i := 3) sc_Fpow.nd rfl (Or.inl rfl) (pe_fld (pv 0) rfl))))) pss_nil)
      (pss_cons (ps_set (i := 4) sc_Fpow.nd rfl (Or.inl rfl) pe_int)
      (pss_cons (ps_set (i := 5) sc_Fpow.nd rfl (Or.inl rfl) pe_int)
      (pss_cons (ps_for PassesOwn.never rfl (pi_range1 rfl T.n_range (pa_cons (pe_callB call_abs (by rfl) T.n_abs bt_abs (pa_cons (pv 1) pa_nil)) pa_nil)) (pg_name (i := 6) sc_Fpow.nd rfl (Or.inl rfl)) (pss_cons (ps_set (i := 4) sc_Fpow.nd rfl (Or.inl rfl) (pe_op op_mulB (pv 4) (pv 2)))
      (pss_one (ps_set (i := 5) sc_Fpow.nd rfl (Or.inl rfl) (pe_op op_mulB (pv 5) (pv 3))))))
      (pss_one (ps_ret (pe_makeP h_Fi hr (by decide) T.mk_F rfl T.g_F (pa_cons (pv 4) (pa_cons (pv 5) pa_nil))))))))))), fun i hy F0 H0 Q q => ?_⟩⟩
  obtain ⟨x, n⟩ := i
  obtain ⟨hn, a, hx, hs⟩ := hy
  refine q_asg (ev_Fn T (ev_var rfl)) ?_
  refine q_asg (ev_Fd T (ev_var rfl)) ?_
  refine q_skip (et_is (et_I (ev_var rfl) ev_c) (decide_eq_false (by omega))) ?_
  refine q_asg ev_c (q_asg ev_c ?_)
  refine q_for1 (n := (n : Int)) (ea1 (ev_i (ev_abs (ev_var rfl)) (by omega))) (by omega) (by omega) (fun i => [.fz (RF K x), .fz (RI (n : Int)), .fz (RI x.num), .fz (RI x.den), .fz (RI (powI x.num i)), .fz (RI (powI x.den i)), .any]) ?_ (fun i hi => ?_) ?_
  · exact ⟨.inr rfl, .inr rfl, .inr rfl, .inr rfl, .inr rfl, .inr rfl, .inl rfl, trivial⟩
  · have hi' : i < n := by omega
    replace hs : (n + 1) * (a + 1) < 130000000 := hs
    have h1 : i * (a + 1) ≤ n * (a + 1) := Nat.mul_le_mul_right _ (Nat.le_of_lt hi')
    have h2 : (n + 1) * (a + 1) = n * (a + 1) + (a + 1) := Nat.succ_mul _ _
    refine q_asg (ev_mul (ev_var rfl) (ev_var rfl) (cmul (lg_powI hx.2.1 i) hx.2.1 (by omega))) ?_
    refine sj_asg (ev_mul (ev_var rfl) (ev_var rfl) (cmul (lg_powI hx.2.2 i) hx.2.2 (by omega))) (nx_sub ?_)
    exact ⟨.inr rfl, .inr rfl, .inr rfl, .inr rfl, .inr rfl, .inr rfl, .inl rfl, trivial⟩
  · rw [show (n : Int).toNat = n by omega]
    exact sj_ret (ev_make (ea2 (ev_var rfl) (ev_var rfl)) (us_Fi (_, _) (powI_ne hx.1 n))) q
abbrev Pr_Fpow (P : Program) (w : World) (K : Frag) (mg : Str → Option Value) (base : Heap) : Prop := Pr P w K mg base 43 (mA K "Fraction" "power") ["self", "exponent"] [] (sp_Fpow K)
theorem ok_Fpow (N : En P K mg base) : Pr_Fpow P w K mg base := by
  obtain ⟨fd, F, h⟩ := fn_Fpow (w := w) N
  exact pr_mk F h (F.bindsN fun _ _ _ _ _ _ us hl => match us, hl with | [_, _], _ => rfl)
end
end G
end
section
set_option maxRecDepth 100000
set_option maxHeartbeats 4000000
namespace G
open PySem PySem.Spec PyProof.Rows L2 He
open _root_.RT (ItvT iRevA pi_revA)
section
variable {P : Program} {w : World} {K : Frag} {mg : Str → Option Value} {base : Heap}
abbrev RP (K : Frag) (p : Po) : Rp := RN (cA K "Poly") ["coefs", "den"] [RT (p.co.map RI), RI p.den]
section
variable {Γ : List Ty} {ta tb te : TE} {R Ra Rb : Rp} {i j : Int} {b c : Bool} {F0 H0 : Hp} {D : Ends} {tz tu tw : TS} {tt : TT} {p : Po}
theorem ev_Pc (T : Tx K mg) (h : EV Γ ta (RP K p)) : EV Γ (tFld K ta "coefs") (RT (p.co.map RI)) := ev_fld h (rn_has 0 (by decide) rfl rfl) T.c_P T.na_P_coefs
theorem ev_Pd (T : Tx K mg) (h : EV Γ ta (RP K p)) : EV Γ (tFld K ta "den") (RI p.den) := ev_fld h (rn_has 1 (by decide) rfl rfl) T.c_P T.na_P_den
theorem map_get {α : Type} {f : α → Rp} {l : List α} {i : Nat} {R : Rp} (d : α) (h : (l.map f)[i]? = some R) : i < l.length ∧ R = f (l.getD i d) := by
  rw [List.getElem?_map] at h
  obtain ⟨x, hx, rfl⟩ := Option.map_eq_some_iff.mp h
  have hi := (List.getElem?_eq_some_iff.mp hx).1
  refine ⟨hi, ?_⟩
  rw [List.getD_eq_getElem?_getD, hx]
  rfl
theorem get_map {α : Type} {f : α → Rp} {l : List α} {i : Nat} (d : α) (h : i < l.length) : (l.map f)[i]? = some (f (l.getD i d)) := by
  rw [List.getElem?_map, List.getD_eq_getElem?_getD, List.getElem?_eq_getElem h]
  rfl
theorem len_mapI {l : List Int} : ((l.map RI).length : Nat) = l.length := List.length_map ..
theorem dp_ints {H : Hp} : ∀ (l : List Int), DpAll K H (l.map V.int) (l.map PyData.int)
  | [] => .nil
  | x :: l => .cons (.int x) (dp_ints l)
theorem lay_ints : ∀ (l : List Int), PyData.canLayAll0 (l.map PyData.int) = true
  | [] => rfl
  | x :: l => by
    rw [List.map_cons]
    unfold PyData.canLayAll0
    rw [lay_ints l]
    rfl
theorem depth_ints : ∀ (l : List Int), PyData.depthAll (l.map PyData.int) = 0
  | [] => rfl
  | x :: l => by
    rw [List.map_cons]
    unfold PyData.depthAll
    rw [depth_ints l]
    rfl
theorem shaped_ints (l : List Int) : SeqAt.shaped (.tuple (l.map PyData.int)) = true := by
  unfold SeqAt.shaped PyData.canLay0
  rw [lay_ints]
  unfold PyData.depth
  rw [depth_ints]
  rfl
theorem eqv_ints : ∀ (l m : List Int), PyData.eqvAll (l.map PyData.int) (m.map PyData.int) = decide (l = m)
  | [], [] => by unfold PyData.eqvAll; simp
  | [], _ :: _ => by unfold PyData.eqvAll; simp
  | _ :: _, [] => by unfold PyData.eqvAll; simp
  | x :: l, y :: m => by
    rw [List.map_cons, List.map_cons]
    unfold PyData.eqvAll
    rw [eqv_ints l m]
    unfold PyData.eqv
    rw [Bool.eq_iff_iff]
    simp
/-- == of tuples of ints -/
theorem ev_eqTI {l m : List Int} (ha : EV Γ ta (RT (l.map RI))) (hb : EV Γ tb (RT (m.map RI))) : EV Γ (tOp (rEqD K) ta tb) (RB (decide (l = m))) :=
  ev_op ha hb fun x y F H Q e r1 r2 q => by
    obtain ⟨p, vs, rfl, h1, it⟩ := r1
    obtain ⟨p2, us, rfl, h2, it2⟩ := r2
    have e1 := it.ints
    have e2 := it2.ints
    subst e1 e2
    refine ⟨.tuple (l.map .int), .tuple (m.map .int), .tup (.inl (.inl (e _ _ h1))) (dp_ints l), .tup (.inl (.inl (e _ _ h2))) (dp_ints m), shaped_ints l, shaped_ints m, ?_⟩
    rw [show PyData.eqv (.tuple (l.map .int)) (.tuple (m.map .int)) = decide (l = m) from by unfold PyData.eqv; exact eqv_ints l m]
    exact q _ F H (Le.refl e) rfl
theorem ev_len {l : List Int} (h : EV Γ ta (RT (l.map RI))) : EV Γ (tCB (rLenS K) (tCons ta tNil)) (RI (l.length : Nat)) := ev_i (ev_lenT h) (by rw [List.length_map])
theorem EV.r (h : EV Γ te Ra) (e : Ra = R) : EV Γ te R := by rw [← e]; exact h
theorem ev_r (h : EV Γ te Ra) (e : Ra = R) : EV Γ te R := by rw [← e]; exact h
theorem eo_r {Rs Rs' : List Rp} (h : EO Γ te Rs) (e : Rs = Rs') : EO Γ te Rs' := by rw [← e]; exact h
theorem take_succ_map {α : Type} {f : α → Rp} {l : List α} {i : Nat} (d : α) (h : i < l.length) : l.take (i + 1) = l.take i ++ [l.getD i d] := by
  rw [List.take_add_one, List.getD_eq_getElem?_getD, List.getElem?_eq_getElem h]
  rfl
theorem map_set' {α : Type} {f : α → Rp} {l : List α} {i : Nat} {x : α} : (l.map f).set i (f x) = (l.set i x).map f := (List.map_set ..).symm
end
abbrev sn_trimmed : List Str := ["numbers", "size"]
theorem sc_trimmed : FnScope sn_trimmed ["numbers"] (defScope s_trimmed) := ⟨rfl, rfl, rfl, by decide +kernel, rfl, by decide +kernel, by decide +kernel⟩
abbrev sp_trimmed (K : Frag) : Sp := SpG (ι := List Int) (fun l => l.length ≤ 100000) (fun l => [RL (l.map RI)]) (fun l => RL ((trim l).map RI))
theorem us_trimmed {K : Frag} (i : List Int) (h : (fun l => l.length ≤ 100000) i) : ∀ vs H Q E, SpF ((fun l => [RL (l.map RI)]) i) ((fun l => RL ((trim l).map RI)) i) vs H Q E → sp_trimmed K vs H Q E := fun _ _ _ _ q => ⟨i, h, q⟩
abbrev Fn_trimmed (P : Program) (w : World) (K : Frag) (mg : Str → Option Value) (base : Heap) : Prop := ∃ fd, DefF K "trimmed" "trimmed" s_trimmed [] [] (ga K "trimmed") fd ∧ FnOk P w K mg base CX0 41 (ga K "trimmed") fd ["numbers"] (sp_trimmed K)
theorem fn_trimmed (N : En P K mg base) : Fn_trimmed P w K mg base := by
  obtain ⟨T, S, ns, tr⟩ := N
  obtain ⟨fd, F⟩ := S.def_ 9
  refine ⟨fd, F, def_ok F sc_trimmed (fun _ => rfl) fun cdv A' outer s H E hr => ⟨_, (pss_cons (ps_set (i := 1) sc_trimmed.nd rfl (Or.inl rfl) (pe_callB call_len_seq (by rfl) T.n_len PySem.boot_len (pa_cons (pv 0) pa_nil)))
      (pss_cons (ps_while PassesOwn.never (PW.pt (pw_and (pt_cmpR op_gt (pv 1) pe_int (nomark _)) (pw_and1 (pt_cmpR op_eq (pe_ix ix_list (pv 0) (pe_op op_sub (pv 1) pe_int) (fun _ _ => rfl)) pe_int (nomark _))))) (pss_one (ps_aug (i := 1) sc_trimmed.nd rfl (Or.inl rfl) pe_int ip_sub)))
      (pss_one (ps_ret (pe_slice sl_list (pv 0) po_none (po_some (pv 1))))))), fun i hy F0 H0 Q q => ?_⟩⟩
  have hl : trimLen zI i ≤ i.length := trimLen_le _ _
  refine q_asg (ev_i (ev_lenL (ev_var rfl)) (by rw [List.length_map])) ?_
  refine q_while (i.length - trimLen zI i) (fun t => [.fz (RL (i.map RI)), .fz (RI ((i.length - t : Nat) : Int))]) ⟨.inr rfl, .inr rfl, trivial⟩ (fun t ht => ?_) (fun t ht => ?_) ?_
  · refine et_is (et_and (et_I (ev_var rfl) ev_c) fun h1 => ?_) (b := decide (((i.length - t : Nat) : Int) > 0) && decide (i.getD (i.length - t - 1) 0 = 0)) ?_
    · have h1' := of_decide_eq_true h1
      refine et_eqI (ev_ixL (n := i.length - t - 1) (ev_var rfl) (ev_i (ev_sub (ev_var rfl) ev_c) (by omega)) (get_map 0 (by omega))) ev_c
    · by_cases h : t < i.length - trimLen zI i
      · rw [decide_eq_true h]
        have h2 : i.length - t - 1 < i.length := by omega
        have h3 := trimLen_out zI i (i.length - t - 1) i[i.length - t - 1] (by omega) (List.getElem?_eq_getElem h2)
        have h4 : i.getD (i.length - t - 1) 0 = 0 := by
          rw [List.getD_eq_getElem?_getD, List.getElem?_eq_getElem h2]
          exact of_decide_eq_true h3
        rw [decide_eq_true h4, decide_eq_true (by omega : ((i.length - t : Nat) : Int) > 0)]
        rfl
      · rw [decide_eq_false h]
        have e : i.length - t = trimLen zI i := by omega
        rw [e]
        cases hz : trimLen zI i with
        | zero => rfl
        | succ m =>
          obtain ⟨x, e1, e2⟩ := trimLen_last zI i m hz
          have h4 : ¬ i.getD (m + 1 - 1) 0 = 0 := by
            rw [List.getD_eq_getElem?_getD, show m + 1 - 1 = m from rfl, e1]
            exact of_decide_eq_false e2
          rw [decide_eq_false h4, Bool.and_false]
  · refine sj_aug rfl ev_c (nx_sub ⟨.inr rfl, .inr ?_, trivial⟩)
    show Ty.fz (RI (((i.length - t : Nat) : Int) - 1)) = Ty.fz (RI ((i.length - (t + 1) : Nat) : Int))
    rw [show ((i.length - t : Nat) : Int) - 1 = ((i.length - (t + 1) : Nat) : Int) by omega]
  · rw [show i.length - (i.length - trimLen zI i) = trimLen zI i by omega]
    refine sj_ret (EO.ev (eo_r (eo_slice (ev_var rfl) ep_none (ep_some (ev_var rfl))) ?_)) q
    rw [List.length_map, HT.sIx_none, HT.sIx_nat, List.drop_zero, Nat.sub_zero, Nat.min_eq_left hl]
    exact (List.map_take ..).symm
abbrev Pr_trimmed (P : Program) (w : World) (K : Frag) (mg : Str → Option Value) (base : Heap) : Prop := Pr P w K mg base 41 (ga K "trimmed") ["numbers"] [] (sp_trimmed K)
theorem ok_trimmed (N : En P K mg base) : Pr_trimmed P w K mg base := by
  obtain ⟨fd, F, h⟩ := fn_trimmed (w := w) N
  exact pr_mk F h (F.bindsN fun _ _ _ _ _ _ us hl => match us, hl with | [_], _ => rfl)
abbrev sn_content : List Str := ["numbers", "divisor", "number"]
theorem sc_content : FnScope sn_content ["numbers"] (defScope s_content) := ⟨rfl, rfl, rfl, by decide +kernel, rfl, by decide +kernel, by decide +kernel⟩
abbrev sp_content (K : Frag) : Sp := SpG (ι := List Int) (fun _ => True) (fun l => [RL (l.map RI)]) (fun l => RI (content l))
theorem us_content {K : Frag} (i : List Int) (h : (fun _ => True) i) : ∀ vs H Q E, SpF ((fun l => [RL (l.map RI)]) i) ((fun l => RI (content l)) i) vs H Q E → sp_content K vs H Q E := fun _ _ _ _ q => ⟨i, h, q⟩
abbrev Fn_content (P : Program) (w : World) (K : Frag) (mg : Str → Option Value) (base : Heap) : Prop := ∃ fd, DefF K "content" "content" s_content [] [] (ga K "content") fd ∧ FnOk P w K mg base CX0 41 (ga K "content") fd ["numbers"] (sp_content K)
theorem fn_content (N : En P K mg base) : Fn_content P w K mg base := by
  obtain ⟨T, S, ns, tr⟩ := N
  obtain ⟨fd, F⟩ := S.def_ 10
  refine ⟨fd, F, def_ok F sc_content (fun _ => rfl) fun cdv A' outer s H E hr => ⟨_, (pss_cons (ps_set (i := 1) sc_content.nd rfl (Or.inl rfl) pe_int)
      (pss_cons (ps_for PassesOwn.never rfl (pi_list (pv 0)) (pg_name (i := 2) sc_content.nd rfl (Or.inl rfl)) (pss_one (ps_set (i := 1) sc_content.nd rfl (Or.inl rfl) (pe_callBfun cr_gcd rfl T.b_gcd (pa_cons (pv 1) (pa_cons (pv 2) pa_nil))))))
      (pss_one (ps_ret (pv 1))))), fun i hy F0 H0 Q q => ?_⟩⟩
  refine q_asg ev_c (q_forL (ev_var rfl) (fun n => [.fz (RL (i.map RI)), .fz (RI (contL i 0 n)), .any]) ⟨.inr rfl, .inr rfl, .inl rfl, trivial⟩ (fun Fb u n R hR => ?_) (sj_ret (ev_var rfl) ?_))
  · obtain ⟨hn, rfl⟩ := map_get 0 hR
    exact sj_asg (ev_gcd (ev_var rfl) (ev_var rfl)) (nx_sub ⟨.inr rfl, .inr rfl, .inl rfl, trivial⟩)
  · rw [List.length_map]
    exact q
abbrev Pr_content (P : Program) (w : World) (K : Frag) (mg : Str → Option Value) (base : Heap) : Prop := Pr P w K mg base 41 (ga K "content") ["numbers"] [] (sp_content K)
theorem ok_content (N : En P K mg base) : Pr_content P w K mg base := by
  obtain ⟨fd, F, h⟩ := fn_content (w := w) N
  exact pr_mk F h (F.bindsN fun _ _ _ _ _ _ us hl => match us, hl with | [_], _ => rfl)
abbrev sn_contentT : List Str := ["numbers", "divisor", "number"]
theorem sc_contentT : FnScope sn_contentT ["numbers"] (defScope s_content) := ⟨rfl, rfl, rfl, by decide +kernel, rfl, by decide +kernel, by decide +kernel⟩
abbrev sp_contentT (K : Frag) : Sp := SpG (ι := List Int) (fun _ => True) (fun l => [RT (l.map RI)]) (fun l => RI (content l))
theorem us_contentT {K : Frag} (i : List Int) (h : (fun _ => True) i) : ∀ vs H Q E, SpF ((fun l => [RT (l.map RI)]) i) ((fun l => RI (content l)) i) vs H Q E → sp_contentT K vs H Q E := fun _ _ _ _ q => ⟨i, h, q⟩
abbrev Fn_contentT (P : Program) (w : World) (K : Frag) (mg : Str → Option Value) (base : Heap) : Prop := ∃ fd, DefF K "content" "content" s_content [] [] (ga K "content") fd ∧ FnOk P w K mg base CX0 41 (ga K "content") fd ["numbers"] (sp_contentT K)
theorem fn_contentT (N : En P K mg base) : Fn_contentT P w K mg base := by
  obtain ⟨T, S, ns, tr⟩ := N
  obtain ⟨fd, F⟩ := S.def_ 10
  refine ⟨fd, F, def_ok F sc_contentT (fun _ => rfl) fun cdv A' outer s H E hr => ⟨_, (pss_cons (ps_set (i := 1) sc_contentT.nd rfl (Or.inl rfl) pe_int)
      (pss_cons (ps_for PassesOwn.never rfl (pi_tup (pv 0)) (pg_name (i := 2) sc_contentT.nd rfl (Or.inl rfl)) (pss_one (ps_set (i := 1) sc_contentT.nd rfl (Or.inl rfl) (pe_callBfun cr_gcd rfl T.b_gcd (pa_cons (pv 1) (pa_cons (pv 2) pa_nil))))))
      (pss_one (ps_ret (pv 1))))), fun i hy F0 H0 Q q => ?_⟩⟩
  refine q_asg ev_c (q_forT (ev_var rfl) (fun n => [.fz (RT (i.map RI)), .fz (RI (contL i 0 n)), .any]) ⟨.inr rfl, .inr rfl, .inl rfl, trivial⟩ (fun Fb u n R hR => ?_) (sj_ret (ev_var rfl) ?_))
  · obtain ⟨hn, rfl⟩ := map_get 0 hR
    exact sj_asg (ev_gcd (ev_var rfl) (ev_var rfl)) (nx_sub ⟨.inr rfl, .inr rfl, .inl rfl, trivial⟩)
  · rw [List.length_map]
    exact q
abbrev Pr_contentT (P : Program) (w : World) (K : Frag) (mg : Str → Option Value) (base : Heap) : Prop := Pr P w K mg base 41 (ga K "content") ["numbers"] [] (sp_contentT K)
theorem ok_contentT (N : En P K mg base) : Pr_contentT P w K mg base := by
  obtain ⟨fd, F, h⟩ := fn_contentT (w := w) N
  exact pr_mk F h (F.bindsN fun _ _ _ _ _ _ us hl => match us, hl with | [_], _ => rfl)
theorem cond_mov {Γ : List Ty} {j : Nat} {T U : Ty} (h : Γ[j]? = some U) (hU : U.mov = false) (e : Γ[j]? = some T) : T.mov = false := by
  rw [h] at e
  cases e
  exact hU
section
variable {Γ : List Ty} {ta tb te : TE} {l : List Int} {b : Bool}
theorem len_pad (l : List Int) (n : Nat) (h : l.length ≤ n) : (pad l n).length = n := by
  unfold pad
  rw [List.length_append, List.length_replicate]
  omega
theorem pad_map (l : List Int) (n : Nat) : l.map RI ++ List.replicate (n - l.length) (RK (.int 0)) = (pad l n).map RI := by
  unfold pad
  rw [List.map_append, List.map_replicate]
/-- list(coefs), padded -/
theorem eo_pad {n m : Nat} (h : EV Γ ta (RT (l.map RI))) (hb : EV Γ tb (RI (((n : Nat) : Int) - (l.length : Nat)))) (hn : l.length ≤ n) (hz : n ≤ 900000) :
    EV Γ (tOp rCat (tCB (fun xs H Q => ∃ p ys, xs = [.ref p] ∧ (SqL K H p ys ∨ SqT K H p ys) ∧ ∀ l, H l = none → Q (.ref l) (upd H l (.lst ys))) (tCons ta tNil)) (tOp rRep (tLst (tCons (tC (.int 0)) tNil)) tb)) (RL ((pad l n).map RI)) := by
  refine EO.ev (eo_r (eo_cat (eo_listT h) (eo_rep (x := .int 0) (eo_lst (ea1 ev_c) (by simp)) hb (by omega) (by omega)) ?_) ?_)
  · rw [List.length_map, List.length_replicate]; omega
  · rw [show (((n : Nat) : Int) - (l.length : Nat)).toNat = n - l.length by omega]
    exact pad_map l n
end
theorem Qu.blk {X : Cx} {s : Shared} {H : Hp} {sc : Scope} {env : Env} {fp : List Addr} (q : Qu X) : Qu (X.blk s H sc env fp) := ⟨q.ns, q.tr, q.st⟩
abbrev sn_Pi : List Str := ["self", "coefs", "den", "numbers", "divisor", "number"]
theorem sc_Pi : FnScope sn_Pi ["self", "coefs", "den"] (defScope s_Pi) := ⟨rfl, rfl, rfl, by decide +kernel, rfl, by decide +kernel, by decide +kernel⟩
abbrev sp_Pi (K : Frag) : Sp := SpI (ι := Bool × List Int × Int) (cA K "Poly") (fun p => p.2.2 ≠ 0 ∧ p.2.1.length ≤ 100000) (fun p => [cond p.1 (RT (p.2.1.map RI)) (RL (p.2.1.map RI)), RI p.2.2]) (fun p => RP K (mkP p.2.1 p.2.2))
theorem us_Pi {K : Frag} (i : Bool × List Int × Int) (h : (fun p => p.2.2 ≠ 0 ∧ p.2.1.length ≤ 100000) i) : ∀ vs H Q E, SpInit (cA K "Poly") ((fun p => [cond p.1 (RT (p.2.1.map RI)) (RL (p.2.1.map RI)), RI p.2.2]) i) ((fun p => RP K (mkP p.2.1 p.2.2)) i) vs H Q E → sp_Pi K vs H Q E := fun _ _ _ _ q => ⟨i, h, q⟩
abbrev Fn_Pi (P : Program) (w : World) (K : Frag) (mg : Str → Option Value) (base : Heap) : Prop := ∃ fd, DefF K "__init__" "Poly.__init__" s_Pi [.int 1] [] (mA K "Poly" "__init__") fd ∧ FnOk P w K mg base CX0 42 (mA K "Poly" "__init__") fd ["self", "coefs", "den"] (sp_Pi K)
theorem fn_Pi (N : En P K mg base) : Fn_Pi P w K mg base := by
  have h_trimmed := ok_trimmed (w := w) N
  have h_content := ok_content (w := w) N
  obtain ⟨T, S, ns, tr⟩ := N
  obtain ⟨fd, F⟩ := S.def_ 11
  refine ⟨fd, F, def_okI F sc_Pi (fun _ => rfl) fun cdv A' outer s H E hr => ⟨_, (pss_cons (ps_if (pt_cmpR op_eq (pv 2) pe_int (nomark _)) (pss_one ps_never) pss_nil)
      (pss_cons (ps_set (i := 3) sc_Pi.nd rfl (Or.inl rfl) (pe_callP h_trimmed hr (by decide) rfl T.g_trimmed (pa_cons (pe_callTy call_list_of (by rfl) T.n_list bt_list (pa_cons (pv 1) pa_nil)) pa_nil)))
      (pss_cons (ps_set (i := 4) sc_Pi.nd rfl (Or.inr rfl) (pe_callBfun cr_gcd rfl T.b_gcd (pa_cons (pe_callP h_content hr (by decide) rfl T.g_content (pa_cons (pv 3) pa_nil)) (pa_cons (pv 2) pa_nil))))
      (pss_cons (ps_if (pt_cmpR op_lt (pv 2) pe_int (nomark _)) (pss_one (ps_set (i := 4) sc_Pi.nd rfl (Or.inr rfl) (pe_un un_neg (pv 4)))) pss_nil)
      (pss_cons (ps_fld (pv 0) (pe_callTy call_tuple_of (by rfl) T.n_tuple bt_tuple (pa_cons (pe_lc (own := [("number", 5)]) (g := gName 5) (by rfl) sc_Pi.nd (pi_list (pv 3)) (blkOk_by (own := [("number", 5)]) (N := sn_Pi) (sc := defScope s_Pi) (by decide +kernel)) (fun _ _ _ _ _ => (pg_name (i := 5) sc_Pi.nd rfl (by first | exact Or.inl rfl | exact Or.inr rfl))) (fun _ _ _ _ _ => pts_nil) (fun _ _ _ _ _ => (pe_op (op_fdivP (Qu.blk (qu_of ns tr sc_Pi)) hr (by decide)) (pv 5) (pv 4)))) pa_nil)) rfl)
      (pss_one (ps_fld (pv 0) (pe_op (op_fdivP (qu_of ns tr sc_Pi) hr (by decide)) (pv 2) (pv 4)) rfl))))))), fun i hy F0 H0 Q a dx q => ?_⟩⟩
  obtain ⟨tp, cs, d⟩ := i
  obtain ⟨hd, hl⟩ := hy
  replace hd : d ≠ 0 := hd
  replace hl : cs.length ≤ 100000 := hl
  have hg : sgnd (gcdI (content (trim cs)) d) d ≠ 0 := sgnd_ne (gcdI_ne hd)
  have htl : (trim cs).length ≤ 100000 := by
    unfold trim
    rw [trimBy_len]
    exact Nat.le_trans (trimLen_le _ _) hl
  refine q_skip (et_is (et_eqI (ev_var rfl) ev_c) (decide_eq_false hd)) ?_
  have e1 : EV (ctxI (cA K "Poly") dx a [cond tp (RT (cs.map RI)) (RL (cs.map RI)), RI d] 3) (tCB (fun xs H Q => ∃ p ys, xs = [.ref p] ∧ (SqL K H p ys ∨ SqT K H p ys) ∧ ∀ l, H l = none → Q (.ref l) (upd H l (.lst ys))) (tCons (tVar 1) tNil)) (RL (cs.map RI)) := by
    cases tp
    · exact EO.ev (eo_listL (ev_var rfl))
    · exact EO.ev (eo_listT (ev_var rfl))
  refine q_asg (ev_call (ea1 e1) (us_trimmed cs hl)) ?_
  refine q_asg (ev_gcd (ev_call (ea1 (ev_var rfl)) (us_content (trim cs) trivial)) (ev_var rfl)) ?_
  have rest : SJ F0 H0 { nx := fun _ H' => Q .non H', rt := Q } [.mk (cA K "Poly") dx a [] [], .fz (cond tp (RT (cs.map RI)) (RL (cs.map RI))), .fz (RI d), .fz (RL ((trim cs).map RI)), .fz (RI (sgnd (gcdI (content (trim cs)) d) d)), .any] (tSeq (sFld K (tVar 0) (tCB (fun xs H Q => ∃ p ys, xs = [.ref p] ∧ ((SqL K H p ys ∧ ∀ l, H l = none → Q (.ref l) (upd H l (.tup ys))) ∨ (SqT K H p ys ∧ Q (.ref p) H))) (tCons (tLc (iList K (tVar 3)) (gName 5) tYes (tOp rFdiv (tVar 5) (tVar 4)) [5]) tNil)) "coefs") (sFld K (tVar 0) (tOp rFdiv (tVar 2) (tVar 4)) "den")) := by
    refine q_fld rfl (ev_tupleO (Rs := (mkP cs d).co.map RI) (eo_lcL (ev_var rfl) ?_ ?_ (fun T hT => cond_mov rfl rfl hT) fun n S R hS hR => ?_)) T.c_P T.na_P_coefs (by simp) rfl fun v => ?_
    · show ((List.map _ (trim cs)).map RI).length = _
      rw [List.length_map, List.length_map, List.length_map]
    · show ((List.map _ (trim cs)).map RI).length ≤ _
      rw [List.length_map, List.length_map]
      omega
    · obtain ⟨hn, rfl⟩ := map_get 0 hS
      have hR' : ((trim cs).map fun c : Int => RI (c.fdiv (sgnd (gcdI (content (trim cs)) d) d)))[n]? = some R := by
        rw [← hR]
        show _ = ((List.map _ (trim cs)).map RI)[n]?
        rw [List.map_map]
        rfl
      obtain ⟨_, rfl⟩ := map_get (f := fun c : Int => RI (c.fdiv (sgnd (gcdI (content (trim cs)) d) d))) 0 hR'
      exact ev_fdv (ev_var rfl) (ev_var rfl) hg
    refine sj_fld rfl (ev_fdv (ev_var rfl) (ev_var rfl) hg) T.c_P T.na_P_den (by simp) rfl fun v2 => ?_
    exact nx_made (i := 0) (ns := ["coefs", "den"]) rfl rfl q
  refine q_if (et_I (ev_var rfl) ev_c) (fun hb => sj_asg (ev_i (ev_neg (ev_var rfl)) ?_) rest) (fun hb => sj_next ?_)
  · show -gcdI _ d = sgnd _ d
    unfold sgnd
    rw [if_pos (of_decide_eq_true hb)]
  · have e : sgnd (gcdI (content (trim cs)) d) d = gcdI (content (trim cs)) d := by
      unfold sgnd
      rw [if_neg (of_decide_eq_false hb)]
    rw [e] at rest
    exact rest
abbrev Pr_Pi (P : Program) (w : World) (K : Frag) (mg : Str → Option Value) (base : Heap) : Prop := Pr P w K mg base 42 (mA K "Poly" "__init__") ["self", "coefs", "den"] [] (sp_Pi K)
theorem ok_Pi (N : En P K mg base) : Pr_Pi P w K mg base := by
  obtain ⟨fd, F, h⟩ := fn_Pi (w := w) N
  obtain ⟨ds, e, b⟩ := F.binds1 (ps := ["self", "coefs", "den"]) 3 1 (by decide) rfl fun T kV doc pm an cdv ct us its h1 h2 => match us, its, h1, h2 with | [_, _, _], [_], _, _ => ⟨_, rfl, rfl⟩
  exact ⟨fd, ds, h, b, e, F.kp⟩
abbrev Pr_Pi1 (P : Program) (w : World) (K : Frag) (mg : Str → Option Value) (base : Heap) : Prop := Pr P w K mg base 42 (mA K "Poly" "__init__") ["self", "coefs", "den"] [.int 1] (sp_Pi K)
theorem ok_Pi1 (N : En P K mg base) : Pr_Pi1 P w K mg base := by
  obtain ⟨fd, F, h⟩ := fn_Pi (w := w) N
  obtain ⟨ds, e, b⟩ := F.binds1 (ps := ["self", "coefs", "den"]) 2 0 (by decide) rfl fun T kV doc pm an cdv ct us its h1 h2 => match us, its, h1, h2 with | [_, _], [_], _, _ => ⟨_, rfl, rfl⟩
  exact ⟨fd, ds, h, b, e, F.kp⟩
abbrev sn_Pconst : List Str := ["x"]
theorem sc_Pconst : FnScope sn_Pconst ["x"] (defScope s_Pconst) := ⟨rfl, rfl, rfl, by decide +kernel, rfl, by decide +kernel, by decide +kernel⟩
abbrev sp_Pconst (K : Frag) : Sp := SpG (ι := Fr) (fun f => f.den ≠ 0) (fun f => [RF K f]) (fun f => RP K (pConst f))
theorem us_Pconst {K : Frag} (i : Fr) (h : (fun f => f.den ≠ 0) i) : ∀ vs H Q E, SpF ((fun f => [RF K f]) i) ((fun f => RP K (pConst f)) i) vs H Q E → sp_Pconst K vs H Q E := fun _ _ _ _ q => ⟨i, h, q⟩
abbrev Fn_Pconst (P : Program) (w : World) (K : Frag) (mg : Str → Option Value) (base : Heap) : Prop := ∃ fd, DefF K "constant" "Poly.constant" s_Pconst [] [] (sA K "Poly" "constant") fd ∧ FnOk P w K mg base CX0 44 (sA K "Poly" "constant") fd ["x"] (sp_Pconst K)
theorem fn_Pconst (N : En P K mg base) : Fn_Pconst P w K mg base := by
  have h_Pi := ok_Pi (w := w) N
  obtain ⟨T, S, ns, tr⟩ := N
  obtain ⟨fd, F⟩ := S.def_ 12
  refine ⟨fd, F, def_ok F sc_Pconst (fun _ => rfl) fun cdv A' outer s H E hr => ⟨_, (pss_one (ps_ret (pe_makeP h_Pi hr (by decide) T.mk_P rfl T.g_P (pa_cons (pe_lst (pa_cons (pe_fld (pv 0) rfl) pa_nil)) (pa_cons (pe_fld (pv 0) rfl) pa_nil))))), fun i hy F0 H0 Q q => ?_⟩⟩
  exact sj_ret (ev_make (ea2 (EO.ev (eo_lst (ea1 (ev_Fn T (ev_var rfl))) (by simp))) (ev_Fd T (ev_var rfl))) (us_Pi (false, [i.num], i.den) ⟨hy, by simp⟩)) q
abbrev Pr_Pconst (P : Program) (w : World) (K : Frag) (mg : Str → Option Value) (base : Heap) : Prop := Pr P w K mg base 44 (sA K "Poly" "constant") ["x"] [] (sp_Pconst K)
theorem ok_Pconst (N : En P K mg base) : Pr_Pconst P w K mg base := by
  obtain ⟨fd, F, h⟩ := fn_Pconst (w := w) N
  exact pr_mk F h (F.bindsN fun _ _ _ _ _ _ us hl => match us, hl with | [_], _ => rfl)
abbrev sn_Pdeg : List Str := ["self"]
theorem sc_Pdeg : FnScope sn_Pdeg ["self"] (defScope s_Pdeg) := ⟨rfl, rfl, rfl, by decide +kernel, rfl, by decide +kernel, by decide +kernel⟩
abbrev sp_Pdeg (K : Frag) : Sp := SpG (ι := Po) (fun _ => True) (fun p => [RP K p]) (fun p => RI (pDeg p))
theorem us_Pdeg {K : Frag} (i : Po) (h : (fun _ => True) i) : ∀ vs H Q E, SpF ((fun p => [RP K p]) i) ((fun p => RI (pDeg p)) i) vs H Q E → sp_Pdeg K vs H Q E := fun _ _ _ _ q => ⟨i, h, q⟩
abbrev Fn_Pdeg (P : Program) (w : World) (K : Frag) (mg : Str → Option Value) (base : Heap) : Prop := ∃ fd, DefF K "degree" "Poly.degree" s_Pdeg [] [] (pA K "Poly" "degree") fd ∧ FnOk P w K mg base CX0 41 (pA K "Poly" "degree") fd ["self"] (sp_Pdeg K)
theorem fn_Pdeg (N : En P K mg base) : Fn_Pdeg P w K mg base := by
  obtain ⟨T, S, ns, tr⟩ := N
  obtain ⟨fd, F⟩ := S.def_ 13
  refine ⟨fd, F, def_ok F sc_Pdeg (fun _ => rfl) fun cdv A' outer s H E hr => ⟨_, (pss_one (ps_ret (pe_op op_sub (pe_callB call_len_seq (by rfl) T.n_len PySem.boot_len (pa_cons (pe_fld (pv 0) rfl) pa_nil)) pe_int))), fun i hy F0 H0 Q q => ?_⟩⟩
  exact sj_ret (ev_sub (ev_len (ev_Pc T (ev_var rfl))) ev_c) q
abbrev Pr_Pdeg (P : Program) (w : World) (K : Frag) (mg : Str → Option Value) (base : Heap) : Prop := Pr P w K mg base 41 (pA K "Poly" "degree") ["self"] [] (sp_Pdeg K)
theorem ok_Pdeg (N : En P K mg base) : Pr_Pdeg P w K mg base := by
  obtain ⟨fd, F, h⟩ := fn_Pdeg (w := w) N
  exact pr_mk F h (F.bindsN fun _ _ _ _ _ _ us hl => match us, hl with | [_], _ => rfl)
abbrev sn_Pz : List Str := ["self"]
theorem sc_Pz : FnScope sn_Pz ["self"] (defScope s_Pz) := ⟨rfl, rfl, rfl, by decide +kernel, rfl, by decide +kernel, by decide +kernel⟩
abbrev sp_Pz (K : Frag) : Sp := SpG (ι := Po) (fun _ => True) (fun p => [RP K p]) (fun p => RB (pZ p))
theorem us_Pz {K : Frag} (i : Po) (h : (fun _ => True) i) : ∀ vs H Q E, SpF ((fun p => [RP K p]) i) ((fun p => RB (pZ p)) i) vs H Q E → sp_Pz K vs H Q E := fun _ _ _ _ q => ⟨i, h, q⟩
abbrev Fn_Pz (P : Program) (w : World) (K : Frag) (mg : Str → Option Value) (base : Heap) : Prop := ∃ fd, DefF K "is_zero" "Poly.is_zero" s_Pz [] [] (pA K "Poly" "is_zero") fd ∧ FnOk P w K mg base CX0 41 (pA K "Poly" "is_zero") fd ["self"] (sp_Pz K)
theorem fn_Pz (N : En P K mg base) : Fn_Pz P w K mg base := by
  obtain ⟨T, S, ns, tr⟩ := N
  obtain ⟨fd, F⟩ := S.def_ 14
  refine ⟨fd, F, def_ok F sc_Pz (fun _ => rfl) fun cdv A' outer s H E hr => ⟨_, (pss_one (ps_ret (pe_cmpR op_eq (pe_callB call_len_seq (by rfl) T.n_len PySem.boot_len (pa_cons (pe_fld (pv 0) rfl) pa_nil)) pe_int (nomark _)))), fun i hy F0 H0 Q q => ?_⟩⟩
  refine sj_ret (ev_b (ev_eqI (ev_len (ev_Pc T (ev_var rfl))) ev_c) ?_) q
  unfold pZ
  rw [Bool.eq_iff_iff, decide_eq_true_iff, decide_eq_true_iff]
  omega
abbrev Pr_Pz (P : Program) (w : World) (K : Frag) (mg : Str → Option Value) (base : Heap) : Prop := Pr P w K mg base 41 (pA K "Poly" "is_zero") ["self"] [] (sp_Pz K)
theorem ok_Pz (N : En P K mg base) : Pr_Pz P w K mg base := by
  obtain ⟨fd, F, h⟩ := fn_Pz (w := w) N
  exact pr_mk F h (F.bindsN fun _ _ _ _ _ _ us hl => match us, hl with | [_], _ => rfl)
abbrev sn_Plead : List Str := ["self"]
theorem sc_Plead : FnScope sn_Plead ["self"] (defScope s_Plead) := ⟨rfl, rfl, rfl, by decide +kernel, rfl, by decide +kernel, by decide +kernel⟩
abbrev sp_Plead (K : Frag) : Sp := SpG (ι := Po) (fun p => p.den ≠ 0) (fun p => [RP K p]) (fun p => RF K (pLead p))
theorem us_Plead {K : Frag} (i : Po) (h : (fun p => p.den ≠ 0) i) : ∀ vs H Q E, SpF ((fun p => [RP K p]) i) ((fun p => RF K (pLead p)) i) vs H Q E → sp_Plead K vs H Q E := fun _ _ _ _ q => ⟨i, h, q⟩
abbrev Fn_Plead (P : Program) (w : World) (K : Frag) (mg : Str → Option Value) (base : Heap) : Prop := ∃ fd, DefF K "lead" "Poly.lead" s_Plead [] [] (pA K "Poly" "lead") fd ∧ FnOk P w K mg base CX0 43 (pA K "Poly" "lead") fd ["self"] (sp_Plead K)
theorem fn_Plead (N : En P K mg base) : Fn_Plead P w K mg base := by
  have h_Fi := ok_Fi (w := w) N
  have h_Fi1 := ok_Fi1 (w := w) N
  obtain ⟨T, S, ns, tr⟩ := N
  obtain ⟨fd, F⟩ := S.def_ 15
  refine ⟨fd, F, def_ok F sc_Plead (fun _ => rfl) fun cdv A' outer s H E hr => ⟨_, (pss_cons (ps_if (pt_cmpR op_eq (pe_callB call_len_seq (by rfl) T.n_len PySem.boot_len (pa_cons (pe_fld (pv 0) rfl) pa_nil)) pe_int (nomark _)) (pss_one (ps_ret (pe_makeP h_Fi1 hr (by decide) T.mk_F rfl T.g_F (pa_cons pe_int pa_nil)))) pss_nil)
      (pss_one (ps_ret (pe_makeP h_Fi hr (by decide) T.mk_F rfl T.g_F (pa_cons (pe_ix ix_tup (pe_fld (pv 0) rfl) (pe_un un_neg pe_int) (fun _ _ => rfl)) (pa_cons (pe_fld (pv 0) rfl) pa_nil)))))), fun i hy F0 H0 Q q => ?_⟩⟩
  refine q_when (et_eqI (ev_len (ev_Pc T (ev_var rfl))) ev_c) (fun hb => ?_) fun hb => ?_
  · have h0 : i.co.length = 0 := by have := of_decide_eq_true hb; omega
    refine sj_ret (ev_r (ev_make (ea1 ev_c) (us_Fi (0, 1) (by decide))) ?_) q
    show RF K (mkF 0 1) = RF K (pLead i)
    unfold pLead
    rw [if_pos h0]
  · have h0 : ¬ i.co.length = 0 := by have := of_decide_eq_false hb; omega
    refine sj_ret (ev_r (ev_make (ea2 (ev_ixTl (ev_Pc T (ev_var rfl)) (ev_neg ev_c) (by rw [List.length_map]; exact get_map 0 (by omega))) (ev_Pd T (ev_var rfl))) (us_Fi (i.co.getD (i.co.length - 1) 0, i.den) hy)) ?_) q
    show RF K (mkF _ i.den) = RF K (pLead i)
    unfold pLead
    rw [if_neg h0]
abbrev Pr_Plead (P : Program) (w : World) (K : Frag) (mg : Str → Option Value) (base : Heap) : Prop := Pr P w K mg base 43 (pA K "Poly" "lead") ["self"] [] (sp_Plead K)
theorem ok_Plead (N : En P K mg base) : Pr_Plead P w K mg base := by
  obtain ⟨fd, F, h⟩ := fn_Plead (w := w) N
  exact pr_mk F h (F.bindsN fun _ _ _ _ _ _ us hl => match us, hl with | [_], _ => rfl)
abbrev sn_Peq : List Str := ["self", "other"]
theorem sc_Peq : FnScope sn_Peq ["self", "other"] (defScope s_Peq) := ⟨rfl, rfl, rfl, by decide +kernel, rfl, by decide +kernel, by decide +kernel⟩
abbrev sp_Peq (K : Frag) : Sp := SpG (ι := Po × Po) (fun _ => True) (fun p => [RP K p.1, RP K p.2]) (fun p => RB (decide (p.1 = p.2)))
theorem us_Peq {K : Frag} (i : Po × Po) (h : (fun _ => True) i) : ∀ vs H Q E, SpF ((fun p => [RP K p.1, RP K p.2]) i) ((fun p => RB (decide (p.1 = p.2))) i) vs H Q E → sp_Peq K vs H Q E := fun _ _ _ _ q => ⟨i, h, q⟩
abbrev Fn_Peq (P : Program) (w : World) (K : Frag) (mg : Str → Option Value) (base : Heap) : Prop := ∃ fd, DefF K "__eq__" "Poly.__eq__" s_Peq [] [] (mA K "Poly" "__eq__") fd ∧ FnOk P w K mg base CX0 41 (mA K "Poly" "__eq__") fd ["self", "other"] (sp_Peq K)
theorem fn_Peq (N : En P K mg base) : Fn_Peq P w K mg base := by
  obtain ⟨T, S, ns, tr⟩ := N
  obtain ⟨fd, F⟩ := S.def_ 16
  refine ⟨fd, F, def_ok F sc_Peq (fun _ => rfl) fun cdv A' outer s H E hr => ⟨_, (pss_one (ps_ret (pe_and (pe_callB call_isi (by rfl) T.n_isinstance bt_isi (pa_cons (pv 1) (pa_cons (pe_glob rfl T.g_P (show RelV (V.ref _) _ from rfl)) pa_nil))) (pe_and (pe_cmpR (op_eqD hr.units) (pe_fld (pv 0) rfl) (pe_fld (pv 1) rfl) (nomark _)) (pe_one (pe_cmpR op_eq (pe_fld (pv 0) rfl) (pe_fld (pv 1) rfl) (nomark _))))))), fun i hy F0 H0 Q q => ?_⟩⟩
  obtain ⟨⟨n, d⟩, ⟨m, e⟩⟩ := i
  refine sj_ret (ev_b (ev_andV (ev_isi (ev_var rfl) (rn_no (by decide)) T.c_P T.i_P) fun _ => ev_andV (ev_eqTI (ev_Pc T (ev_var rfl)) (ev_Pc T (ev_var rfl))) fun _ => ev_eqI (ev_Pd T (ev_var rfl)) (ev_Pd T (ev_var rfl))) ?_) q
  rw [Bool.eq_iff_iff]
  simp
abbrev Pr_Peq (P : Program) (w : World) (K : Frag) (mg : Str → Option Value) (base : Heap) : Prop := Pr P w K mg base 41 (mA K "Poly" "__eq__") ["self", "other"] [] (sp_Peq K)
theorem ok_Peq (N : En P K mg base) : Pr_Peq P w K mg base := by
  obtain ⟨fd, F, h⟩ := fn_Peq (w := w) N
  exact pr_mk F h (F.bindsN fun _ _ _ _ _ _ us hl => match us, hl with | [_, _], _ => rfl)
abbrev sn_Padd : List Str := ["self", "other", "size", "first", "second", "numbers", "a", "b"]
theorem sc_Padd : FnScope sn_Padd ["self", "other"] (defScope s_Padd) := ⟨rfl, rfl, rfl, by decide +kernel, rfl, by decide +kernel, by decide +kernel⟩
abbrev sp_Padd (K : Frag) : Sp := SpG (ι := Po × Po) (fun p => ∃ a b, Sz a p.1 ∧ Sz b p.2 ∧ a + b < 130000000 ∧ p.1.co.length ≤ 100000 ∧ p.2.co.length ≤ 100000) (fun p => [RP K p.1, RP K p.2]) (fun p => RP K (pAdd p.1 p.2))
theorem us_Padd {K : Frag} (i : Po × Po) (h : (fun p => ∃ a b, Sz a p.1 ∧ Sz b p.2 ∧ a + b < 130000000 ∧ p.1.co.length ≤ 100000 ∧ p.2.co.length ≤ 100000) i) : ∀ vs H Q E, SpF ((fun p => [RP K p.1, RP K p.2]) i) ((fun p => RP K (pAdd p.1 p.2)) i) vs H Q E → sp_Padd K vs H Q E := fun _ _ _ _ q => ⟨i, h, q⟩
abbrev Fn_Padd (P : Program) (w : World) (K : Frag) (mg : Str → Option Value) (base : Heap) : Prop := ∃ fd, DefF K "__add__" "Poly.__add__" s_Padd [] [] (mA K "Poly" "__add__") fd ∧ FnOk P w K mg base CX0 44 (mA K "Poly" "__add__") fd ["self", "other"] (sp_Padd K)
theorem fn_Padd (N : En P K mg base) : Fn_Padd P w K mg base := by
  have h_Pi := ok_Pi (w := w) N
  obtain ⟨T, S, ns, tr⟩ := N
  obtain ⟨fd, F⟩ := S.def_ 17
  refine ⟨fd, F, def_ok F sc_Padd (fun _ => rfl) fun cdv A' outer s H E hr => ⟨_, (pss_cons (ps_set (i := 2) sc_Padd.nd rfl (Or.inl rfl) (pe_callB (cr_max2 rfl) (by rfl) T.n_max bt_max (pa_cons (pe_callB call_len_seq (by rfl) T.n_len PySem.boot_len (pa_cons (pe_fld (pv 0) rfl) pa_nil)) (pa_cons (pe_callB call_len_seq (by rfl) T.n_len PySem.boot_len (pa_cons (pe_fld (pv 1) rfl) pa_nil)) pa_nil))))
      (pss_cons (ps_set (i := 3) sc_Padd.nd rfl (Or.inl rfl) (pe_op op_cat (pe_callTy call_list_of (by rfl) T.n_list bt_list (pa_cons (pe_fld (pv 0) rfl) pa_nil)) (pe_op op_rep (pe_lst (pa_cons pe_int pa_nil)) (pe_op op_sub (pv 2) (pe_callB call_len_seq (by rfl) T.n_len PySem.boot_len (pa_cons (pe_fld (pv 0) rfl) pa_nil))))))
      (pss_cons (ps_set (i := 4) sc_Padd.nd rfl (Or.inl rfl) (pe_op op_cat (pe_callTy call_list_of (by rfl) T.n_list bt_list (pa_cons (pe_fld (pv 1) rfl) pa_nil)) (pe_op op_rep (pe_lst (pa_cons pe_int pa_nil)) (pe_op op_sub (pv 2) (pe_callB call_len_seq (by rfl) T.n_len PySem.boot_len (pa_cons (pe_fld (pv 1) rfl) pa_nil))))))
      (pss_cons (ps_setLc (i := 5) (own := [("a", 6), ("b", 7)]) (g := gTup _ 2 (gCons (gName 6) (gCons (gName 7) gNil))) (by rfl) sc_Padd.nd rfl rfl (sw_true rfl rfl rfl (by decide +kernel)) (pi_zip (by rfl) T.n_zip (pa_cons (pv 3) (pa_cons (pv 4) pa_nil))) (blkOk_by (own := [("a", 6), ("b", 7)]) (N := sn_Padd) (sc := defScope s_Padd) (by decide +kernel)) (fun _ _ _ _ _ => (pg_tup rfl (pgs_cons (pg_name (i := 6) sc_Padd.nd rfl (by first | exact Or.inl rfl | exact Or.inr rfl)) (pgs_cons (pg_name (i := 7) sc_Padd.nd rfl (by first | exact Or.inl rfl | exact Or.inr rfl)) pgs_nil)))) (fun _ _ _ _ _ => pts_nil) (fun _ _ _ _ _ => (pe_op op_add (pe_op op_mulB (pv 6) (pe_fldK K rfl (pv 1) rfl)) (pe_op op_mulB (pv 7) (pe_fldK K rfl (pv 0) rfl)))))
      (pss_one (ps_ret (pe_makeP h_Pi hr (by decide) T.mk_P rfl T.g_P (pa_cons (pv 5) (pa_cons (pe_op op_mulB (pe_fld (pv 0) rfl) (pe_fld (pv 1) rfl)) pa_nil))))))))), fun i hy F0 H0 Q q => ?_⟩⟩
  obtain ⟨x, y⟩ := i
  replace hy : ∃ a b, Sz a x ∧ Sz b y ∧ a + b < 130000000 ∧ x.co.length ≤ 100000 ∧ y.co.length ≤ 100000 := hy
  change SJ F0 H0 _ (ctx [RP K x, RP K y] _) _
  obtain ⟨a, b, hx, hy, hs, l1, l2⟩ := hy
  refine q_asg (ev_i (j := ((max x.co.length y.co.length : Nat) : Int)) (ev_max2 (ev_len (ev_Pc T (ev_var rfl))) (ev_len (ev_Pc T (ev_var rfl)))) (by omega)) ?_
  refine q_asg (eo_pad (m := 0) (ev_Pc T (ev_var rfl)) (ev_sub (ev_var rfl) (ev_len (ev_Pc T (ev_var rfl)))) (by omega) (by omega)) ?_
  refine q_asg (eo_pad (m := 0) (ev_Pc T (ev_var rfl)) (ev_sub (ev_var rfl) (ev_len (ev_Pc T (ev_var rfl)))) (by omega) (by omega)) ?_
  refine q_asg (EO.ev (eo_lcZ (Rs := ((List.range (max x.co.length y.co.length)).map fun i => (pad x.co (max x.co.length y.co.length)).getD i 0 * y.den + (pad y.co (max x.co.length y.co.length)).getD i 0 * x.den).map RI) (ev_var rfl) (ev_var rfl) ?_ ?_ ?_ (by decide) (fun T hT => cond_mov rfl rfl hT) (fun T hT => cond_mov rfl rfl hT) fun n S U R hS hU hR => ?_)) ?_
  · rw [List.length_map, List.length_map, List.length_map, List.length_range, len_pad _ _ (by omega)]
  · rw [List.length_map, List.length_map, len_pad _ _ (by omega), len_pad _ _ (by omega)]
  · rw [List.length_map, List.length_map, List.length_range]; omega
  · obtain ⟨h1, rfl⟩ := map_get 0 hS
    obtain ⟨h2, rfl⟩ := map_get 0 hU
    rw [len_pad _ _ (by omega)] at h1
    rw [List.getElem?_map, List.getElem?_map, List.getElem?_range h1] at hR
    cases (Option.some.inj hR)
    exact ev_add (ev_mul (ev_var rfl) (ev_Pd T (ev_var rfl)) (cmul (lg_pad hx.2.2 n) hy.2.1 hs)) (ev_mul (ev_var rfl) (ev_Pd T (ev_var rfl)) (cmul (lg_pad hy.2.2 n) hx.2.1 (by omega)))
  refine sj_ret (ev_make (ea2 (ev_var rfl) (ev_mul (ev_Pd T (ev_var rfl)) (ev_Pd T (ev_var rfl)) (cmul hx.2.1 hy.2.1 hs))) (us_Pi (false, _, x.den * y.den) ⟨mul_ne hx.1 hy.1, ?_⟩)) q
  rw [List.length_map, List.length_range]
  omega
abbrev Pr_Padd (P : Program) (w : World) (K : Frag) (mg : Str → Option Value) (base : Heap) : Prop := Pr P w K mg base 44 (mA K "Poly" "__add__") ["self", "other"] [] (sp_Padd K)
theorem ok_Padd (N : En P K mg base) : Pr_Padd P w K mg base := by
  obtain ⟨fd, F, h⟩ := fn_Padd (w := w) N
  exact pr_mk F h (F.bindsN fun _ _ _ _ _ _ us hl => match us, hl with | [_, _], _ => rfl)
abbrev sn_Pneg : List Str := ["self", "number"]
theorem sc_Pneg : FnScope sn_Pneg ["self"] (defScope s_Pneg) := ⟨rfl, rfl, rfl, by decide +kernel, rfl, by decide +kernel, by decide +kernel⟩
abbrev sp_Pneg (K : Frag) : Sp := SpG (ι := Po) (fun p => p.den ≠ 0 ∧ p.co.length ≤ 100000) (fun p => [RP K p]) (fun p => RP K (pNeg p))
theorem us_Pneg {K : Frag} (i : Po) (h : (fun p => p.den ≠ 0 ∧ p.co.length ≤ 100000) i) : ∀ vs H Q E, SpF ((fun p => [RP K p]) i) ((fun p => RP K (pNeg p)) i) vs H Q E → sp_Pneg K vs H Q E := fun _ _ _ _ q => ⟨i, h, q⟩
abbrev Fn_Pneg (P : Program) (w : World) (K : Frag) (mg : Str → Option Value) (base : Heap) : Prop := ∃ fd, DefF K "__neg__" "Poly.__neg__" s_Pneg [] [] (mA K "Poly" "__neg__") fd ∧ FnOk P w K mg base CX0 44 (mA K "Poly" "__neg__") fd ["self"] (sp_Pneg K)
theorem fn_Pneg (N : En P K mg base) : Fn_Pneg P w K mg base := by
  have h_Pi := ok_Pi (w := w) N
  obtain ⟨T, S, ns, tr⟩ := N
  obtain ⟨fd, F⟩ := S.def_ 19
  refine ⟨fd, F, def_ok F sc_Pneg (fun _ => rfl) fun cdv A' outer s H E hr => ⟨_, (pss_one (ps_ret (pe_makeP h_Pi hr (by decide) T.mk_P rfl T.g_P (pa_cons (pe_lc (own := [("number", 1)]) (g := gName 1) (by rfl) sc_Pneg.nd (pi_tup (pe_fldK K rfl (pv 0) rfl)) (blkOk_by (own := [("number", 1)]) (N := sn_Pneg) (sc := defScope s_Pneg) (by decide +kernel)) (fun _ _ _ _ _ => (pg_name (i := 1) sc_Pneg.nd rfl (by first | exact Or.inl rfl | exact Or.inr rfl))) (fun _ _ _ _ _ => pts_nil) (fun _ _ _ _ _ => (pe_un un_neg (pv 1)))) (pa_cons (pe_fld (pv 0) rfl) pa_nil))))), fun i hy F0 H0 Q q => ?_⟩⟩
  obtain ⟨hd, hl⟩ := hy
  refine sj_ret (ev_make (ea2 (EO.ev (eo_lcT (Rs := (i.co.map fun c => -c).map RI) (ev_Pc T (ev_var rfl)) (by rw [List.length_map, List.length_map, List.length_map]) (by rw [List.length_map, List.length_map]; omega) (fun T hT => cond_mov rfl rfl hT) fun n S R hS hR => ?_)) (ev_Pd T (ev_var rfl))) (us_Pi (false, _, i.den) ⟨hd, by rw [List.length_map]; exact hl⟩)) q
  obtain ⟨h1, rfl⟩ := map_get 0 hS
  rw [List.map_map] at hR
  obtain ⟨_, rfl⟩ := map_get (f := RI ∘ fun c => -c) 0 hR
  exact ev_neg (ev_var rfl)
abbrev Pr_Pneg (P : Program) (w : World) (K : Frag) (mg : Str → Option Value) (base : Heap) : Prop := Pr P w K mg base 44 (mA K "Poly" "__neg__") ["self"] [] (sp_Pneg K)
theorem ok_Pneg (N : En P K mg base) : Pr_Pneg P w K mg base := by
  obtain ⟨fd, F, h⟩ := fn_Pneg (w := w) N
  exact pr_mk F h (F.bindsN fun _ _ _ _ _ _ us hl => match us, hl with | [_], _ => rfl)
abbrev sn_Psub : List Str := ["self", "other"]
theorem sc_Psub : FnScope sn_Psub ["self", "other"] (defScope s_Psub) := ⟨rfl, rfl, rfl, by decide +kernel, rfl, by decide +kernel, by decide +kernel⟩
abbrev sp_Psub (K : Frag) : Sp := SpG (ι := Po × Po) (fun p => ∃ a b, Sz a p.1 ∧ Sz b p.2 ∧ a + b < 130000000 ∧ p.1.co.length ≤ 100000 ∧ p.2.co.length ≤ 100000) (fun p => [RP K p.1, RP K p.2]) (fun p => RP K (pSub p.1 p.2))
theorem us_Psub {K : Frag} (i : Po × Po) (h : (fun p => ∃ a b, Sz a p.1 ∧ Sz b p.2 ∧ a + b < 130000000 ∧ p.1.co.length ≤ 100000 ∧ p.2.co.length ≤ 100000) i) : ∀ vs H Q E, SpF ((fun p => [RP K p.1, RP K p.2]) i) ((fun p => RP K (pSub p.1 p.2)) i) vs H Q E → sp_Psub K vs H Q E := fun _ _ _ _ q => ⟨i, h, q⟩
abbrev Fn_Psub (P : Program) (w : World) (K : Frag) (mg : Str → Option Value) (base : Heap) : Prop := ∃ fd, DefF K "__sub__" "Poly.__sub__" s_Psub [] [] (mA K "Poly" "__sub__") fd ∧ FnOk P w K mg base CX0 45 (mA K "Poly" "__sub__") fd ["self", "other"] (sp_Psub K)
theorem fn_Psub (N : En P K mg base) : Fn_Psub P w K mg base := by
  have h_Pneg := ok_Pneg (w := w) N
  have h_Padd := ok_Padd (w := w) N
  obtain ⟨T, S, ns, tr⟩ := N
  obtain ⟨fd, F⟩ := S.def_ 18
  refine ⟨fd, F, def_ok F sc_Psub (fun _ => rfl) fun cdv A' outer s H E hr => ⟨_, (pss_one (ps_ret (pe_op (op_bin h_Padd T.o_Padd.at_ T.o_Padd.fn T.f_P hr (by decide)) (pv 0) (pe_un (un_negOwn h_Pneg T.o_Pneg.at_ T.o_Pneg.fn hr (by decide)) (pv 1))))), fun i hy F0 H0 Q q => ?_⟩⟩
  obtain ⟨x, y⟩ := i
  replace hy : ∃ a b, Sz a x ∧ Sz b y ∧ a + b < 130000000 ∧ x.co.length ≤ 100000 ∧ y.co.length ≤ 100000 := hy
  change SJ F0 H0 _ (ctx [RP K x, RP K y] _) _
  obtain ⟨a, b, hx, hy, hs, l1, l2⟩ := hy
  have l3 : (pNeg y).co.length ≤ 100000 := Nat.le_trans (len_mkP_le _ _) (by rw [List.length_map]; exact l2)
  exact sj_ret (ev_own2 (ev_var rfl) (ev_own1 (ev_var rfl) rn_is (us_Pneg y ⟨hy.1, l2⟩)) rn_is rn_is (us_Padd (x, pNeg y) ⟨a, b, hx, sz_pNeg hy, hs, l1, l3⟩)) q
abbrev Pr_Psub (P : Program) (w : World) (K : Frag) (mg : Str → Option Value) (base : Heap) : Prop := Pr P w K mg base 45 (mA K "Poly" "__sub__") ["self", "other"] [] (sp_Psub K)
theorem ok_Psub (N : En P K mg base) : Pr_Psub P w K mg base := by
  obtain ⟨fd, F, h⟩ := fn_Psub (w := w) N
  exact pr_mk F h (F.bindsN fun _ _ _ _ _ _ us hl => match us, hl with | [_, _], _ => rfl)
abbrev sn_Pmul : List Str := ["self", "other", "numbers", "i", "a", "j", "b", "_"]
theorem sc_Pmul : FnScope sn_Pmul ["self", "other"] (defScope s_Pmul) := ⟨rfl, rfl, rfl, by decide +kernel, rfl, by decide +kernel, by decide +kernel⟩
abbrev sp_Pmul (K : Frag) : Sp := SpG (ι := Po × Po) (fun p => ∃ a b, Sz a p.1 ∧ Sz b p.2 ∧ a + b < 130000000 ∧ p.1.co.length + p.2.co.length ≤ 100000) (fun p => [RP K p.1, RP K p.2]) (fun p => RP K (pMul p.1 p.2))
theorem us_Pmul {K : Frag} (i : Po × Po) (h : (fun p => ∃ a b, Sz a p.1 ∧ Sz b p.2 ∧ a + b < 130000000 ∧ p.1.co.length + p.2.co.length ≤ 100000) i) : ∀ vs H Q E, SpF ((fun p => [RP K p.1, RP K p.2]) i) ((fun p => RP K (pMul p.1 p.2)) i) vs H Q E → sp_Pmul K vs H Q E := fun _ _ _ _ q => ⟨i, h, q⟩
abbrev Fn_Pmul (P : Program) (w : World) (K : Frag) (mg : Str → Option Value) (base : Heap) : Prop := ∃ fd, DefF K "__mul__" "Poly.__mul__" s_Pmul [] [] (mA K "Poly" "__mul__") fd ∧ FnOk P w K mg base CX0 44 (mA K "Poly" "__mul__") fd ["self", "other"] (sp_Pmul K)
theorem fn_Pmul (N : En P K mg base) : Fn_Pmul P w K mg base := by
  have h_Pi := ok_Pi (w := w) N
  obtain ⟨T, S, ns, tr⟩ := N
  obtain ⟨fd, F⟩ := S.def_ 20
  refine ⟨fd, F, def_ok F sc_Pmul (fun _ => rfl) fun cdv A' outer s H E hr => ⟨_, (pss_cons (ps_setLc (i := 2) (own := [("_", 7)]) (g := gName 7) (by rfl) sc_Pmul.nd rfl rfl (sw_true rfl rfl rfl (by decide +kernel)) (pi_range1 rfl T.n_range (pa_cons (pe_op op_add (pe_callB (call_len_seqK K rfl) (by rfl) T.n_len PySem.boot_len (pa_cons (pe_fldK K rfl (pv 0) rfl) pa_nil)) (pe_callB (call_len_seqK K rfl) (by rfl) T.n_len PySem.boot_len (pa_cons (pe_fldK K rfl (pv 1) rfl) pa_nil))) pa_nil)) (blkOk_by (own := [("_", 7)]) (N := sn_Pmul) (sc := defScope s_Pmul) (by decide +kernel)) (fun _ _ _ _ _ => (pg_name (i := 7) sc_Pmul.nd rfl (by first | exact Or.inl rfl | exact Or.inr rfl))) (fun _ _ _ _ _ => pts_nil) (fun _ _ _ _ _ => pe_int))
      (pss_cons (ps_for PassesOwn.never rfl (pi_enumT (by rfl) T.n_enumerate (pa_cons (pe_fld (pv 0) rfl) pa_nil)) (pg_tup rfl (pgs_cons (pg_name (i := 3) sc_Pmul.nd rfl (Or.inl rfl)) (pgs_cons (pg_name (i := 4) sc_Pmul.nd rfl (Or.inl rfl)) pgs_nil))) (pss_one (ps_for PassesOwn.never rfl (pi_enumT (by rfl) T.n_enumerate (pa_cons (pe_fld (pv 1) rfl) pa_nil)) (pg_tup rfl (pgs_cons (pg_name (i := 5) sc_Pmul.nd rfl (Or.inl rfl)) (pgs_cons (pg_name (i := 6) sc_Pmul.nd rfl (Or.inl rfl)) pgs_nil))) (pss_one (ps_asg (pe_op op_add (pe_ix ix_list (pv 2) (pe_op op_add (pv 3) (pv 5)) (fun _ _ => rfl)) (pe_op op_mulB (pv 4) (pv 6))) (pg_sub (pv 2) (pe_op op_add (pv 3) (pv 5)) set_list))))))
      (pss_one (ps_ret (pe_makeP h_Pi hr (by decide) T.mk_P rfl T.g_P (pa_cons (pv 2) (pa_cons (pe_op op_mulB (pe_fld (pv 0) rfl) (pe_fld (pv 1) rfl)) pa_nil))))))), fun i hy F0 H0 Q q => ?_⟩⟩
  obtain ⟨x, y⟩ := i
  replace hy : ∃ a b, Sz a x ∧ Sz b y ∧ a + b < 130000000 ∧ x.co.length + y.co.length ≤ 100000 := hy
  change SJ F0 H0 _ (ctx [RP K x, RP K y] _) _
  obtain ⟨a, b, hx, hy, hs, l1⟩ := hy
  have lo : ∀ n, (mulOut x.co y.co n (List.replicate (x.co.length + y.co.length) 0)).length = x.co.length + y.co.length := fun n => by rw [mulOut_len, List.length_replicate]
  refine q_asgO (eo_lc1 (n := ((x.co.length + y.co.length : Nat) : Int)) (Rs := (List.replicate (x.co.length + y.co.length) (0 : Int)).map RI) (ea1 (ev_i (ev_add (ev_len (ev_Pc T (ev_var rfl))) (ev_len (ev_Pc T (ev_var rfl)))) (by omega))) (by omega) (by rw [List.length_map, List.length_replicate]; omega) (by omega) (fun T hT => cond_mov rfl rfl hT) fun n R hR => ?_) ?_
  · rw [List.map_replicate] at hR
    rw [List.eq_of_mem_replicate (List.mem_of_getElem? hR)]
    exact ev_c
  refine q_forE (ev_Pc T (ev_var rfl)) (fun n => [.fz (RP K x), .fz (RP K y), .own ((mulOut x.co y.co n (List.replicate (x.co.length + y.co.length) 0)).map RI), .any, .any, .any, .any, .any]) ?_ (fun Fb u n R hR => ?_) ?_
  · exact ⟨.inr rfl, .inr rfl, .inr rfl, .inl rfl, .inl rfl, .inl rfl, .inl rfl, .inl rfl, trivial⟩
  · obtain ⟨hn, rfl⟩ := map_get 0 hR
    refine sj_forE (ev_Pc T (ev_var rfl)) (fun j => [.fz (RP K x), .fz (RP K y), .own ((mulIn (x.co.getD n 0) n y.co j (mulOut x.co y.co n (List.replicate (x.co.length + y.co.length) 0))).map RI), .fz (RI (n : Int)), .fz (RI (x.co.getD n 0)), .any, .any, .any]) ?_ (fun Fc u2 j R hR => ?_) ?_
    · exact ⟨.inr rfl, .inr rfl, .inr rfl, .inr rfl, .inr rfl, .inl rfl, .inl rfl, .inl rfl, trivial⟩
    · obtain ⟨hj, rfl⟩ := map_get 0 hR
      replace hj : j < y.co.length := hj
      replace hn : n < x.co.length := hn
      have li : n + j < (mulIn (x.co.getD n 0) n y.co j (mulOut x.co y.co n (List.replicate (x.co.length + y.co.length) 0))).length := by rw [mulIn_len, lo]; omega
      refine sj_setO (n := n + j) rfl (ev_add (ev_ixO rfl (ev_i (ev_add (ev_var rfl) (ev_var rfl)) (by omega)) (get_map 0 li)) (ev_mul (ev_var rfl) (ev_var rfl) (cmul (lg_getD hx.2.2 n) (lg_getD hy.2.2 j) hs))) (ev_i (ev_add (ev_var rfl) (ev_var rfl)) (by omega)) (by rw [List.length_map]; exact li) (nx_sub ?_)
      refine ⟨.inr rfl, .inr rfl, .inr ?_, .inr rfl, .inr rfl, .inl rfl, .inl rfl, .inl rfl, trivial⟩
      rw [map_set']
      rfl
    · rw [List.length_map]
      exact nx_sub ⟨.inr rfl, .inr rfl, .inr rfl, .inl rfl, .inl rfl, .inl rfl, .inl rfl, .inl rfl, trivial⟩
  · rw [List.length_map]
    refine sj_freeze (i := 2) rfl ?_
    refine sj_ret (ev_make (ea2 (ev_var rfl) (ev_mul (ev_Pd T (ev_var rfl)) (ev_Pd T (ev_var rfl)) (cmul hx.2.1 hy.2.1 hs))) (us_Pi (false, mulL x.co y.co, x.den * y.den) ⟨mul_ne hx.1 hy.1, ?_⟩)) q
    unfold mulL
    rw [lo]
    exact l1
abbrev Pr_Pmul (P : Program) (w : World) (K : Frag) (mg : Str → Option Value) (base : Heap) : Prop := Pr P w K mg base 44 (mA K "Poly" "__mul__") ["self", "other"] [] (sp_Pmul K)
theorem ok_Pmul (N : En P K mg base) : Pr_Pmul P w K mg base := by
  obtain ⟨fd, F, h⟩ := fn_Pmul (w := w) N
  exact pr_mk F h (F.bindsN fun _ _ _ _ _ _ us hl => match us, hl with | [_, _], _ => rfl)
abbrev sn_Pat : List Str := ["self", "k", "total", "number"]
theorem sc_Pat : FnScope sn_Pat ["self", "k"] (defScope s_Pat) := ⟨rfl, rfl, rfl, by decide +kernel, rfl, by decide +kernel, by decide +kernel⟩
abbrev sp_Pat (K : Frag) : Sp := SpG (ι := Po × Int) (fun p => ∃ a b, Sz a p.1 ∧ lg p.2 ≤ b ∧ a + p.1.co.length * (b + 2) + b < 130000000) (fun p => [RP K p.1, RI p.2]) (fun p => RF K (pAt p.1 p.2))
theorem us_Pat {K : Frag} (i : Po × Int) (h : (fun p => ∃ a b, Sz a p.1 ∧ lg p.2 ≤ b ∧ a + p.1.co.length * (b + 2) + b < 130000000) i) : ∀ vs H Q E, SpF ((fun p => [RP K p.1, RI p.2]) i) ((fun p => RF K (pAt p.1 p.2)) i) vs H Q E → sp_Pat K vs H Q E := fun _ _ _ _ q => ⟨i, h, q⟩
abbrev Fn_Pat (P : Program) (w : World) (K : Frag) (mg : Str → Option Value) (base : Heap) : Prop := ∃ fd, DefF K "at" "Poly.at" s_Pat [] [] (mA K "Poly" "at") fd ∧ FnOk P w K mg base CX0 43 (mA K "Poly" "at") fd ["self", "k"] (sp_Pat K)
theorem fn_Pat (N : En P K mg base) : Fn_Pat P w K mg base := by
  have h_Fi := ok_Fi (w := w) N
  obtain ⟨T, S, ns, tr⟩ := N
  obtain ⟨fd, F⟩ := S.def_ 21
  refine ⟨fd, F, def_ok F sc_Pat (fun _ => rfl) fun cdv A' outer s H E hr => ⟨_, (pss_cons (ps_set (i := 2) sc_Pat.nd rfl (Or.inl rfl) pe_int)
      (pss_cons (ps_for PassesOwn.never rfl (pi_revA rfl T.n_reversed (pe_fld (pv 0) rfl)) (pg_name (i := 3) sc_Pat.nd rfl (Or.inl rfl)) (pss_one (ps_set (i := 2) sc_Pat.nd rfl (Or.inl rfl) (pe_op op_add (pe_op op_mulB (pv 2) (pv 1)) (pv 3)))))
      (pss_one (ps_ret (pe_makeP h_Fi hr (by decide) T.mk_F rfl T.g_F (pa_cons (pv 2) (pa_cons (pe_fld (pv 0) rfl) pa_nil))))))), fun i hy F0 H0 Q q => ?_⟩⟩
  obtain ⟨p, x⟩ := i
  replace hy : ∃ a b, Sz a p ∧ lg x ≤ b ∧ a + p.co.length * (b + 2) + b < 130000000 := hy
  change SJ F0 H0 _ (ctx [RP K p, RI x] _) _
  obtain ⟨a, b, hp, hx, hs⟩ := hy
  refine q_asg ev_c ?_
  refine q_forR (ev_Pc T (ev_var rfl)) (fun n => [.fz (RP K p), .fz (RI x), .fz (RI (horner p.co x n)), .any]) ⟨.inr rfl, .inr rfl, .inr rfl, .inl rfl, trivial⟩ (fun Fb u n R hn hR => ?_) ?_
  · obtain ⟨_, rfl⟩ := map_get 0 hR
    rw [List.length_map] at hn
    have h1 : n * (b + 2) ≤ p.co.length * (b + 2) := Nat.mul_le_mul_right _ (Nat.le_of_lt hn)
    refine sj_asg (ev_add (ev_mul (ev_var rfl) (ev_var rfl) (cmul (horner_lg hp.2.2 hx n) hx (by omega))) (ev_var rfl)) (nx_sub ⟨.inr rfl, .inr rfl, .inr ?_, .inl rfl, trivial⟩)
    rw [List.length_map]
    rfl
  · rw [List.length_map]
    exact sj_ret (ev_make (ea2 (ev_var rfl) (ev_Pd T (ev_var rfl))) (us_Fi (_, p.den) hp.1)) q
abbrev Pr_Pat (P : Program) (w : World) (K : Frag) (mg : Str → Option Value) (base : Heap) : Prop := Pr P w K mg base 43 (mA K "Poly" "at") ["self", "k"] [] (sp_Pat K)
theorem ok_Pat (N : En P K mg base) : Pr_Pat P w K mg base := by
  obtain ⟨fd, F, h⟩ := fn_Pat (w := w) N
  exact pr_mk F h (F.bindsN fun _ _ _ _ _ _ us hl => match us, hl with | [_, _], _ => rfl)
abbrev sn_Pscaled : List Str := ["self", "factor", "number"]
theorem sc_Pscaled : FnScope sn_Pscaled ["self", "factor"] (defScope s_Pscaled) := ⟨rfl, rfl, rfl, by decide +kernel, rfl, by decide +kernel, by decide +kernel⟩
abbrev sp_Pscaled (K : Frag) : Sp := SpG (ι := Po × Fr) (fun p => ∃ a b da db, S2 a da p.1 ∧ S2F b db p.2 ∧ a + b < 130000000 ∧ da + db < 130000000 ∧ p.1.co.length ≤ 100000) (fun p => [RP K p.1, RF K p.2]) (fun p => RP K (pScaled p.1 p.2))
theorem us_Pscaled {K : Frag} (i : Po × Fr) (h : (fun p => ∃ a b da db, S2 a da p.1 ∧ S2F b db p.2 ∧ a + b < 130000000 ∧ da + db < 130000000 ∧ p.1.co.length ≤ 100000) i) : ∀ vs H Q E, SpF ((fun p => [RP K p.1, RF K p.2]) i) ((fun p => RP K (pScaled p.1 p.2)) i) vs H Q E → sp_Pscaled K vs H Q E := fun _ _ _ _ q => ⟨i, h, q⟩
abbrev Fn_Pscaled (P : Program) (w : World) (K : Frag) (mg : Str → Option Value) (base : Heap) : Prop := ∃ fd, DefF K "scaled" "Poly.scaled" s_Pscaled [] [] (mA K "Poly" "scaled") fd ∧ FnOk P w K mg base CX0 44 (mA K "Poly" "scaled") fd ["self", "factor"] (sp_Pscaled K)
theorem fn_Pscaled (N : En P K mg base) : Fn_Pscaled P w K mg base := by
  have h_Pi := ok_Pi (w := w) N
  obtain ⟨T, S, ns, tr⟩ := N
  obtain ⟨fd, F⟩ := S.def_ 22
  refine ⟨fd, F, def_ok F sc_Pscaled (fun _ => rfl) fun cdv A' outer s H E hr => ⟨_, (pss_one (ps_ret (pe_makeP h_Pi hr (by decide) T.mk_P rfl T.g_P (pa_cons (pe_lc (own := [("number", 2)]) (g := gName 2) (by rfl) sc_Pscaled.nd (pi_tup (pe_fldK K rfl (pv 0) rfl)) (blkOk_by (own := [("number", 2)]) (N := sn_Pscaled) (sc := defScope s_Pscaled) (by decide +kernel)) (fun _ _ _ _ _ => (pg_name (i := 2) sc_Pscaled.nd rfl (by first | exact Or.inl rfl | exact Or.inr rfl))) (fun _ _ _ _ _ => pts_nil) (fun _ _ _ _ _ => (pe_op op_mulB (pv 2) (pe_fldK K rfl (pv 1) rfl)))) (pa_cons (pe_op op_mulB (pe_fld (pv 0) rfl) (pe_fld (pv 1) rfl)) pa_nil))))), fun i hy F0 H0 Q q => ?_⟩⟩
  obtain ⟨x, f⟩ := i
  replace hy : ∃ a b da db, S2 a da x ∧ S2F b db f ∧ a + b < 130000000 ∧ da + db < 130000000 ∧ x.co.length ≤ 100000 := hy
  change SJ F0 H0 _ (ctx [RP K x, RF K f] _) _
  obtain ⟨a, b, da, db, hx, hf, hs, hs2, hl⟩ := hy
  refine sj_ret (ev_make (ea2 (EO.ev (eo_lcT (Rs := (x.co.map fun c => c * f.num).map RI) (ev_Pc T (ev_var rfl)) (by rw [List.length_map, List.length_map, List.length_map]) (by rw [List.length_map, List.length_map]; exact Nat.le_trans hl (by decide)) (fun T hT => cond_mov rfl rfl hT) fun n S R hS hR => ?_)) (ev_mul (ev_Pd T (ev_var rfl)) (ev_Fd T (ev_var rfl)) (cmul hx.2.1 hf.2.2 hs2))) (us_Pi (false, _, x.den * f.den) ⟨mul_ne hx.1 hf.1, by rw [List.length_map]; exact hl⟩)) q
  obtain ⟨h1, rfl⟩ := map_get 0 hS
  rw [List.map_map] at hR
  obtain ⟨_, rfl⟩ := map_get (f := RI ∘ fun c => c * f.num) 0 hR
  exact ev_mul (ev_var rfl) (ev_Fn T (ev_var rfl)) (cmul (lg_getD hx.2.2 n) hf.2.1 hs)
abbrev Pr_Pscaled (P : Program) (w : World) (K : Frag) (mg : Str → Option Value) (base : Heap) : Prop := Pr P w K mg base 44 (mA K "Poly" "scaled") ["self", "factor"] [] (sp_Pscaled K)
theorem ok_Pscaled (N : En P K mg base) : Pr_Pscaled P w K mg base := by
  obtain ⟨fd, F, h⟩ := fn_Pscaled (w := w) N
  exact pr_mk F h (F.bindsN fun _ _ _ _ _ _ us hl => match us, hl with | [_, _], _ => rfl)
end
end G
end
section
set_option maxRecDepth 100000
set_option maxHeartbeats 4000000
namespace G
open PySem PySem.Spec PyProof.Rows L2 He
open _root_.RT (ItvT iRevA pi_revA)
section
variable {P : Program} {w : World} {K : Frag} {mg : Str → Option Value} {base : Heap}
abbrev RO (K : Frag) (q : List Po) : Rp := RN (cA K "Operator") ["coefs"] [RT (q.map (RP K))]
abbrev RQ (K : Frag) (q : Q2) : Rp := RN (cA K "Poly2") ["rows"] [RT (q.map (RP K))]
section
variable {Γ : List Ty} {ta tb te : TE} {R Ra Rb : Rp} {i j : Int} {b c : Bool} {p : Po} {q : Q2}
theorem ev_Oc (T : Tx K mg) (h : EV Γ ta (RO K q)) : EV Γ (tFld K ta "coefs") (RT (q.map (RP K))) := ev_fld h (rn_has 0 (by decide) rfl rfl) T.c_O T.na_O_coefs
theorem ev_Qr (T : Tx K mg) (h : EV Γ ta (RQ K q)) : EV Γ (tFld K ta "rows") (RT (q.map (RP K))) := ev_fld h (rn_has 0 (by decide) rfl rfl) T.c_Q T.na_Q_rows
theorem ev_lenP {l : List Po} (h : EV Γ ta (RT (l.map (RP K)))) : EV Γ (tCB (rLenS K) (tCons ta tNil)) (RI (l.length : Nat)) := ev_i (ev_lenT h) (by rw [List.length_map])
theorem ev_lenPL {l : List Po} (h : EV Γ ta (RL (l.map (RP K)))) : EV Γ (tCB (rLenS K) (tCons ta tNil)) (RI (l.length : Nat)) := ev_i (ev_lenL h) (by rw [List.length_map])
theorem ev_lenPO {j : Nat} {l : List Po} (h : Γ[j]? = some (.own (l.map (RP K)))) : EV Γ (tCB (rLenS K) (tCons (tVar j) tNil)) (RI (l.length : Nat)) := ev_i (ev_lenO h) (by rw [List.length_map])
theorem one_ne : (1 : Int) ≠ 0 := by decide
theorem ev_Pz (h : EV Γ ta (RP K p)) : EV Γ (tProp (cA K "Poly") (sp_Pz K) [] E0 ta) (RB (pZ p)) := ev_prop h (rn_no (m := "is_zero") (by decide)) (us_Pz p trivial)
theorem ev_Pdeg (h : EV Γ ta (RP K p)) : EV Γ (tProp (cA K "Poly") (sp_Pdeg K) [] E0 ta) (RI (pDeg p)) := ev_prop h (rn_no (m := "degree") (by decide)) (us_Pdeg p trivial)
theorem ev_Plead (h : EV Γ ta (RP K p)) (hd : p.den ≠ 0) : EV Γ (tProp (cA K "Poly") (sp_Plead K) [] E0 ta) (RF K (pLead p)) := ev_prop h (rn_no (m := "lead") (by decide)) (us_Plead p hd)
theorem ev_Fz {f : Fr} (h : EV Γ ta (RF K f)) : EV Γ (tProp (cA K "Fraction") (sp_Fz K) [] E0 ta) (RB (decide (f.num = 0))) := ev_prop h (rn_no (m := "is_zero") (by decide)) (us_Fz f trivial)
/-- == of tuples of polynomials that are the same -/
def SameP (K : Frag) (a b : Addr) (H : Hp) : Prop := ∃ p F, Ex F H ∧ (RP K p).r (.ref a) F ∧ (RP K p).r (.ref b) F
theorem sameP_mon (a b : Addr) (H H' : Hp) (e : Ext H H') (h : SameP K a b H) : SameP K a b H' := by
  obtain ⟨p, F, ex, r1, r2⟩ := h
  exact ⟨p, F, fun x o z => e _ _ (ex x o z), r1, r2⟩
end
theorem op_eqQ {X : Cx} {k : Nat} (T : Tx X.K X.mg) (h : Pr_Peq X.prog X.w X.K X.mg X.base) (hr : Room k X.A) (hk : 42 ≤ k) : OpR X (compareOp .Eq) (rEqG (DTup X.K (DIns (cA X.K "Poly") (SameP X.K)))) := by
  obtain ⟨fd, ds, F, b, v, kp⟩ := h
  cases v
  have F2 := F.imp (sp' := spEq (SameP X.K)) fun vs H Q E ⟨a, b, e, ⟨p, F, ex, r1, r2⟩, k⟩ => by
    subst e
    refine ⟨(p, p), trivial, F, ex, ⟨r1, r2, trivial⟩, fun v F3 H3 l r => ?_⟩
    have e2 : v = .bl (decide (p = p)) := r
    rw [e2, decide_eq_true rfl]
    exact k H3 l.h
  exact op_eqG (rcG_tup (mon_ins fun a b H H' e h => sameP_mon a b H H' e h) (eqG_ins F2 T.o_Peq.at_ T.o_Peq.fn b L2.pass0)) (hr.mono hk)
section
variable {Γ : List Ty} {ta tb te : TE} {l : List Po}
theorem prs_same {F H : Hp} (ex : Ex F H) : ∀ {l : List Po} {vs us : List V}, Its (l.map (RP K)) vs F → Its (l.map (RP K)) us F → Prs (DIns (cA K "Poly") (SameP K)) vs us H
  | [], [], [], _, _ => Prs.nil
  | p :: l, v :: vs, u :: us, h1, h2 => by
    refine Prs.cons ?_ (prs_same ex h1.2 h2.2)
    obtain ⟨a, dx, ws, rfl, ha, it⟩ := h1.1
    obtain ⟨b, dy, ws2, rfl, hb, it2⟩ := h2.1
    exact ⟨a, b, dx, dy, _, _, rfl, rfl, ex _ _ ha, ex _ _ hb, p, F, ex, ⟨a, dx, ws, rfl, ha, it⟩, ⟨b, dy, ws2, rfl, hb, it2⟩⟩
theorem ev_eqTP (ha : EV Γ ta (RT (l.map (RP K)))) (hb : EV Γ tb (RT (l.map (RP K)))) : EV Γ (tOp (rEqG (DTup K (DIns (cA K "Poly") (SameP K)))) ta tb) (RB true) :=
  ev_op ha hb fun x y F H Q e r1 r2 q => by
    obtain ⟨a, vs, rfl, h1, it⟩ := r1
    obtain ⟨b, us, rfl, h2, it2⟩ := r2
    refine ⟨⟨a, b, vs, us, rfl, rfl, .inl (.inl (e _ _ h1)), .inl (.inl (e _ _ h2)), prs_same e it it2⟩, fun H' ex => q (.bl true) F H' ⟨ex, Ex.refl _, fun x o z => ex _ _ (e x o z), fun _ _ z => z⟩ rfl⟩
end
abbrev sn_Pshifted : List Str := ["self", "step", "numbers", "i", "j"]
theorem sc_Pshifted : FnScope sn_Pshifted ["self", "step"] (defScope s_Pshifted) := ⟨rfl, rfl, rfl, by decide +kernel, rfl, by decide +kernel, by decide +kernel⟩
abbrev sp_Pshifted (K : Frag) : Sp := SpG (ι := Po × Int) (fun p => ∃ a b, Sz a p.1 ∧ lg p.2 ≤ b ∧ a + p.1.co.length * (p.1.co.length * (b + 2)) + b < 130000000 ∧ p.1.co.length ≤ 100000) (fun p => [RP K p.1, RI p.2]) (fun p => RP K (pShift p.1 p.2))
theorem us_Pshifted {K : Frag} (i : Po × Int) (h : (fun p => ∃ a b, Sz a p.1 ∧ lg p.2 ≤ b ∧ a + p.1.co.length * (p.1.co.length * (b + 2)) + b < 130000000 ∧ p.1.co.length ≤ 100000) i) : ∀ vs H Q E, SpF ((fun p => [RP K p.1, RI p.2]) i) ((fun p => RP K (pShift p.1 p.2)) i) vs H Q E → sp_Pshifted K vs H Q E := fun _ _ _ _ q => ⟨i, h, q⟩
abbrev Fn_Pshifted (P : Program) (w : World) (K : Frag) (mg : Str → Option Value) (base : Heap) : Prop := ∃ fd, DefF K "shifted" "Poly.shifted" s_Pshifted [] [] (mA K "Poly" "shifted") fd ∧ FnOk P w K mg base CX0 44 (mA K "Poly" "shifted") fd ["self", "step"] (sp_Pshifted K)
theorem fn_Pshifted (N : En P K mg base) : Fn_Pshifted P w K mg base := by
  have h_Pi := ok_Pi (w := w) N
  obtain ⟨T, S, ns, tr⟩ := N
  obtain ⟨fd, F⟩ := S.def_ 23
  refine ⟨fd, F, def_ok F sc_Pshifted (fun _ => rfl) fun cdv A' outer s H E hr => ⟨_, (pss_cons (ps_set (i := 2) sc_Pshifted.nd rfl (Or.inl rfl) (pe_callTy call_list_of (by rfl) T.n_list bt_list (pa_cons (pe_fld (pv 0) rfl) pa_nil)))
      (pss_cons (ps_for PassesOwn.never rfl (pi_range1 rfl T.n_range (pa_cons (pe_op op_sub (pe_callB call_len_seq (by rfl) T.n_len PySem.boot_len (pa_cons (pv 2) pa_nil)) pe_int) pa_nil)) (pg_name (i := 3) sc_Pshifted.nd rfl (Or.inl rfl)) (pss_one (ps_for PassesOwn.never rfl (pi_range3 (by rfl) T.n_range (pa_cons (pe_op op_sub (pe_callB call_len_seq (by rfl) T.n_len PySem.boot_len (pa_cons (pv 2) pa_nil)) pe_int) (pa_cons (pe_op op_sub (pv 3) pe_int) (pa_cons (pe_un un_neg pe_int) pa_nil)))) (pg_name (i := 4) sc_Pshifted.nd rfl (Or.inl rfl)) (pss_one (ps_asg (pe_op op_add (pe_ix ix_list (pv 2) (pv 4) (fun _ _ => rfl)) (pe_op op_mulB (pv 1) (pe_ix ix_list (pv 2) (pe_op op_add (pv 4) pe_int) (fun _ _ => rfl)))) (pg_sub (pv 2) (pv 4) set_list))))))
      (pss_one (ps_ret (pe_makeP h_Pi hr (by decide) T.mk_P rfl T.g_P (pa_cons (pv 2) (pa_cons (pe_fld (pv 0) rfl) pa_nil))))))), fun i hy F0 H0 Q q => ?_⟩⟩
  obtain ⟨p, s⟩ := i
  replace hy : ∃ a b, Sz a p ∧ lg s ≤ b ∧ a + p.co.length * (p.co.length * (b + 2)) + b < 130000000 ∧ p.co.length ≤ 100000 := hy
  change SJ F0 H0 _ (ctx [RP K p, RI s] _) _
  obtain ⟨a, b, hp, hx, hs, hl⟩ := hy
  refine q_asgO (eo_listT (ev_Pc T (ev_var rfl))) ?_
  refine q_for1 (n := (p.co.length : Int) - 1) (ea1 (ev_sub (ev_i (ev_lenO rfl) (by rw [List.length_map])) ev_c)) (by omega) (by omega) (fun n => [.fz (RP K p), .fz (RI s), .own ((shOut s p.co.length n p.co).map RI), .any, .any]) ⟨.inr rfl, .inr rfl, .inr rfl, .inl rfl, .inl rfl, trivial⟩ (fun n hn => ?_) ?_
  · have hn' : n < p.co.length - 1 := by omega
    refine sj_for3 (hi := (p.co.length : Int) - 2) (lo := (n : Int) - 1) (ea_cons (ev_i (ev_sub (ev_i (ev_lenO rfl) (by rw [List.length_map, shOut_len])) ev_c) (by omega)) (ea2 (ev_sub (ev_var rfl) ev_c) (ev_neg ev_c))) (by omega) (fun j => [.fz (RP K p), .fz (RI s), .own ((shIn s p.co.length j (shOut s p.co.length n p.co)).map RI), .fz (RI (n : Int)), .any]) ⟨.inr rfl, .inr rfl, .inr rfl, .inr rfl, .inl rfl, trivial⟩ (fun j hj => ?_) ?_
    · have hj' : j < p.co.length - 1 - n := by omega
      have ll : (shIn s p.co.length j (shOut s p.co.length n p.co)).length = p.co.length := by rw [shIn_len, shOut_len]
      have e1 : (p.co.length : Int) - 2 - (j : Int) = ((p.co.length - 2 - j : Nat) : Int) := by omega
      have b1 : lg ((shIn s p.co.length j (shOut s p.co.length n p.co)).getD (p.co.length - 2 - j + 1) 0) ≤ a + p.co.length * (p.co.length * (b + 2)) := by
        refine Nat.le_trans (shIn_lg (l := shOut s p.co.length n p.co) p.co.length hx (shOut_lg p.co.length hx (fun j => lg_getD hp.2.2 j) n) j _) ?_
        have h1 : j * (b + 2) ≤ p.co.length * (b + 2) := Nat.mul_le_mul_right _ (by omega)
        have h2 : (n + 1) * (p.co.length * (b + 2)) ≤ p.co.length * (p.co.length * (b + 2)) := Nat.mul_le_mul_right _ (by omega)
        have h3 : (n + 1) * (p.co.length * (b + 2)) = n * (p.co.length * (b + 2)) + p.co.length * (b + 2) := Nat.succ_mul _ _
        omega
      rw [e1]
      refine sj_setO (n := p.co.length - 2 - j) rfl (ev_add (ev_ixO rfl (ev_var rfl) (get_map 0 (by omega))) (ev_mul (ev_var rfl) (ev_ixO rfl (ev_i (ev_add (ev_var rfl) ev_c) (by omega)) (get_map (i := p.co.length - 2 - j + 1) 0 (by omega))) (cmul hx b1 (by omega)))) (ev_var rfl) (by rw [List.length_map]; omega) (nx_sub ?_)
      refine ⟨.inr rfl, .inr rfl, .inr ?_, .inr rfl, .inl rfl, trivial⟩
      rw [map_set']
      rfl
    · have e1 : ((p.co.length : Int) - 2 - ((n : Int) - 1)).toNat = p.co.length - 1 - n := by omega
      rw [e1]
      exact nx_sub ⟨.inr rfl, .inr rfl, .inr rfl, .inl rfl, .inl rfl, trivial⟩
  · rw [show ((p.co.length : Int) - 1).toNat = p.co.length - 1 by omega]
    refine sj_freeze (i := 2) rfl ?_
    exact sj_ret (ev_make (ea2 (ev_var rfl) (ev_Pd T (ev_var rfl))) (us_Pi (false, shOut s p.co.length (p.co.length - 1) p.co, p.den) ⟨hp.1, by show (shOut _ _ _ _).length ≤ _; rw [shOut_len]; exact hl⟩)) q
abbrev Pr_Pshifted (P : Program) (w : World) (K : Frag) (mg : Str → Option Value) (base : Heap) : Prop := Pr P w K mg base 44 (mA K "Poly" "shifted") ["self", "step"] [] (sp_Pshifted K)
theorem ok_Pshifted (N : En P K mg base) : Pr_Pshifted P w K mg base := by
  obtain ⟨fd, F, h⟩ := fn_Pshifted (w := w) N
  exact pr_mk F h (F.bindsN fun _ _ _ _ _ _ us hl => match us, hl with | [_, _], _ => rfl)
/-- the turns of the trimming loop over a list of one's own -/
theorem getD_mem {α : Type} {l : List α} {i : Nat} {d x : α} (h : l[i]? = some x) : l.getD i d = x := by rw [List.getD_eq_getElem?_getD, h]; rfl
theorem trim_turn {l : List Po} {t : Nat} (h : t < l.length - trimLen pZ l) : pZ (l.getD (l.length - t - 1) p0) = true := by
  have hl := trimLen_le pZ l
  have h2 : l.length - t - 1 < l.length := by omega
  rw [getD_mem (List.getElem?_eq_getElem h2)]
  exact trimLen_out pZ l _ _ (by omega) (List.getElem?_eq_getElem h2)
theorem trim_done {l : List Po} (h : 0 < trimLen pZ l) : pZ (l.getD (trimLen pZ l - 1) p0) = false := by
  obtain ⟨x, e1, e2⟩ := trimLen_last pZ l (trimLen pZ l - 1) (by omega)
  rw [getD_mem e1]
  exact e2
theorem dropLast_take {α : Type} {l : List α} {n : Nat} (h : n < l.length) : (l.take (n + 1)).dropLast = l.take n := by
  rw [List.dropLast_eq_take, List.take_take, List.length_take]
  congr 1
  omega
abbrev sn_Oi : List Str := ["self", "coefs", "kept"]
theorem sc_Oi : FnScope sn_Oi ["self", "coefs"] (defScope s_Oi) := ⟨rfl, rfl, rfl, by decide +kernel, rfl, by decide +kernel, by decide +kernel⟩
abbrev sp_Oi (K : Frag) : Sp := SpI (ι := List Po) (cA K "Operator") (fun l => l.length ≤ 100000) (fun l => [RL (l.map (RP K))]) (fun l => RO K (mkQ l))
theorem us_Oi {K : Frag} (i : List Po) (h : (fun l => l.length ≤ 100000) i) : ∀ vs H Q E, SpInit (cA K "Operator") ((fun l => [RL (l.map (RP K))]) i) ((fun l => RO K (mkQ l)) i) vs H Q E → sp_Oi K vs H Q E := fun _ _ _ _ q => ⟨i, h, q⟩
abbrev Fn_Oi (P : Program) (w : World) (K : Frag) (mg : Str → Option Value) (base : Heap) : Prop := ∃ fd, DefF K "__init__" "Operator.__init__" s_Oi [] [] (mA K "Operator" "__init__") fd ∧ FnOk P w K mg base CX0 43 (mA K "Operator" "__init__") fd ["self", "coefs"] (sp_Oi K)
theorem fn_Oi (N : En P K mg base) : Fn_Oi P w K mg base := by
  have h_Pz := ok_Pz (w := w) N
  obtain ⟨T, S, ns, tr⟩ := N
  obtain ⟨fd, F⟩ := S.def_ 24
  refine ⟨fd, F, def_okI F sc_Oi (fun _ => rfl) fun cdv A' outer s H E hr => ⟨_, (pss_cons (ps_set (i := 2) sc_Oi.nd rfl (Or.inl rfl) (pe_callTy call_list_of (by rfl) T.n_list bt_list (pa_cons (pv 1) pa_nil)))
      (pss_cons (ps_while PassesOwn.never (PW.pt (pw_and (pt_cmpR op_gt (pe_callB call_len_seq (by rfl) T.n_len PySem.boot_len (pa_cons (pv 2) pa_nil)) pe_int (nomark _)) (pw_and1 (pt_val (pe_propP h_Pz hr (by decide) T.c_P T.p_Pz (pe_ix ix_list (pv 2) (pe_un un_neg pe_int) (fun _ _ => rfl))))))) (pss_one (ps_expr (pe_bm0 PySem.F.plainAttrs_list PySem.F.slot_list_pop PySem.F.type_list_pop mt_pop (pv 2)))))
      (pss_one (ps_fld (pv 0) (pe_callTy call_tuple_of (by rfl) T.n_tuple bt_tuple (pa_cons (pv 2) pa_nil)) rfl)))), fun i hy F0 H0 Q a dx q => ?_⟩⟩
  obtain ⟨l, rfl⟩ : ∃ zz, zz = i := ⟨i, rfl⟩
  replace hy : l.length ≤ 100000 := hy
  change SJ F0 H0 _ (ctxI (cA K "Operator") dx a [RL (l.map (RP K))] _) _
  have hl := trimLen_le pZ l
  refine q_asgO (eo_listL (ev_var rfl)) ?_
  refine q_while (l.length - trimLen pZ l) (fun t => [.mk (cA K "Operator") dx a [] [], .fz (RL (l.map (RP K))), .own ((l.take (l.length - t)).map (RP K))]) ⟨.inr rfl, .inr rfl, .inr (by rw [Nat.sub_zero, List.take_length]), trivial⟩ (fun t ht => ?_) (fun t ht => ?_) ?_
  · have hlt : (l.take (l.length - t)).length = l.length - t := by rw [List.length_take]; omega
    refine et_is (et_and (b := pZ (l.getD (l.length - t - 1) p0)) (et_I (ev_i (ev_lenPO rfl) (by rw [hlt])) ev_c) fun h1 => ?_) ?_
    · have h1' : ((l.length - t : Nat) : Int) > 0 := of_decide_eq_true h1
      refine et_B (ev_Pz (ev_ixOl rfl (ev_neg ev_c) ?_))
      rw [List.length_map, hlt]
      have := get_map (f := RP K) (l := l.take (l.length - t)) (i := l.length - t - 1) p0 (by omega)
      rw [this]
      congr 2
      rw [List.getD_eq_getElem?_getD, List.getD_eq_getElem?_getD, List.getElem?_take, if_pos (by omega)]
    · by_cases h : t < l.length - trimLen pZ l
      · rw [trim_turn h, decide_eq_true h, decide_eq_true (by omega : ((l.length - t : Nat) : Int) > 0)]
        rfl
      · rw [decide_eq_false h]
        by_cases h0 : 0 < trimLen pZ l
        · rw [show l.length - t - 1 = trimLen pZ l - 1 by omega, trim_done h0, Bool.and_false]
        · rw [decide_eq_false (by omega : ¬ ((l.length - t : Nat) : Int) > 0), Bool.false_and]
  · refine sj_pop rfl (by rw [List.length_map, List.length_take]; omega) (nx_sub ⟨.inr rfl, .inr rfl, .inr ?_, trivial⟩)
    rw [← List.map_dropLast, show l.length - t = l.length - (t + 1) + 1 by omega, dropLast_take (by omega)]
  · rw [show l.length - (l.length - trimLen pZ l) = trimLen pZ l by omega]
    refine sj_freeze (i := 2) rfl ?_
    refine sj_fld rfl (ev_tupleL (ev_var rfl)) T.c_O T.na_O_coefs (by simp) rfl fun v => ?_
    exact nx_made (i := 0) (ns := ["coefs"]) rfl rfl q
abbrev Pr_Oi (P : Program) (w : World) (K : Frag) (mg : Str → Option Value) (base : Heap) : Prop := Pr P w K mg base 43 (mA K "Operator" "__init__") ["self", "coefs"] [] (sp_Oi K)
theorem ok_Oi (N : En P K mg base) : Pr_Oi P w K mg base := by
  obtain ⟨fd, F, h⟩ := fn_Oi (w := w) N
  exact pr_mk F h (F.bindsN fun _ _ _ _ _ _ us hl => match us, hl with | [_, _], _ => rfl)
abbrev sn_Oord : List Str := ["self"]
theorem sc_Oord : FnScope sn_Oord ["self"] (defScope s_Oord) := ⟨rfl, rfl, rfl, by decide +kernel, rfl, by decide +kernel, by decide +kernel⟩
abbrev sp_Oord (K : Frag) : Sp := SpG (ι := List Po) (fun _ => True) (fun l => [RO K l]) (fun l => RI ((l.length : Int) - 1))
theorem us_Oord {K : Frag} (i : List Po) (h : (fun _ => True) i) : ∀ vs H Q E, SpF ((fun l => [RO K l]) i) ((fun l => RI ((l.length : Int) - 1)) i) vs H Q E → sp_Oord K vs H Q E := fun _ _ _ _ q => ⟨i, h, q⟩
abbrev Fn_Oord (P : Program) (w : World) (K : Frag) (mg : Str → Option Value) (base : Heap) : Prop := ∃ fd, DefF K "order" "Operator.order" s_Oord [] [] (pA K "Operator" "order") fd ∧ FnOk P w K mg base CX0 41 (pA K "Operator" "order") fd ["self"] (sp_Oord K)
theorem fn_Oord (N : En P K mg base) : Fn_Oord P w K mg base := by
  obtain ⟨T, S, ns, tr⟩ := N
  obtain ⟨fd, F⟩ := S.def_ 25
  refine ⟨fd, F, def_ok F sc_Oord (fun _ => rfl) fun cdv A' outer s H E hr => ⟨_, (pss_one (ps_ret (pe_op op_sub (pe_callB call_len_seq (by rfl) T.n_len PySem.boot_len (pa_cons (pe_fld (pv 0) rfl) pa_nil)) pe_int))), fun i hy F0 H0 Q q => ?_⟩⟩
  exact sj_ret (ev_sub (ev_lenP (ev_Oc T (ev_var rfl))) ev_c) q
abbrev Pr_Oord (P : Program) (w : World) (K : Frag) (mg : Str → Option Value) (base : Heap) : Prop := Pr P w K mg base 41 (pA K "Operator" "order") ["self"] [] (sp_Oord K)
theorem ok_Oord (N : En P K mg base) : Pr_Oord P w K mg base := by
  obtain ⟨fd, F, h⟩ := fn_Oord (w := w) N
  exact pr_mk F h (F.bindsN fun _ _ _ _ _ _ us hl => match us, hl with | [_], _ => rfl)
abbrev sn_Oz : List Str := ["self"]
theorem sc_Oz : FnScope sn_Oz ["self"] (defScope s_Oz) := ⟨rfl, rfl, rfl, by decide +kernel, rfl, by decide +kernel, by decide +kernel⟩
abbrev sp_Oz (K : Frag) : Sp := SpG (ι := List Po) (fun _ => True) (fun l => [RO K l]) (fun l => RB (decide (l.length = 0)))
theorem us_Oz {K : Frag} (i : List Po) (h : (fun _ => True) i) : ∀ vs H Q E, SpF ((fun l => [RO K l]) i) ((fun l => RB (decide (l.length = 0))) i) vs H Q E → sp_Oz K vs H Q E := fun _ _ _ _ q => ⟨i, h, q⟩
abbrev Fn_Oz (P : Program) (w : World) (K : Frag) (mg : Str → Option Value) (base : Heap) : Prop := ∃ fd, DefF K "is_zero" "Operator.is_zero" s_Oz [] [] (pA K "Operator" "is_zero") fd ∧ FnOk P w K mg base CX0 41 (pA K "Operator" "is_zero") fd ["self"] (sp_Oz K)
theorem fn_Oz (N : En P K mg base) : Fn_Oz P w K mg base := by
  obtain ⟨T, S, ns, tr⟩ := N
  obtain ⟨fd, F⟩ := S.def_ 26
  refine ⟨fd, F, def_ok F sc_Oz (fun _ => rfl) fun cdv A' outer s H E hr => ⟨_, (pss_one (ps_ret (pe_cmpR op_eq (pe_callB call_len_seq (by rfl) T.n_len PySem.boot_len (pa_cons (pe_fld (pv 0) rfl) pa_nil)) pe_int (nomark _)))), fun i hy F0 H0 Q q => ?_⟩⟩
  refine sj_ret (ev_b (ev_eqI (ev_lenP (ev_Oc T (ev_var rfl))) ev_c) ?_) q
  rw [Bool.eq_iff_iff, decide_eq_true_iff, decide_eq_true_iff]
  omega
abbrev Pr_Oz (P : Program) (w : World) (K : Frag) (mg : Str → Option Value) (base : Heap) : Prop := Pr P w K mg base 41 (pA K "Operator" "is_zero") ["self"] [] (sp_Oz K)
theorem ok_Oz (N : En P K mg base) : Pr_Oz P w K mg base := by
  obtain ⟨fd, F, h⟩ := fn_Oz (w := w) N
  exact pr_mk F h (F.bindsN fun _ _ _ _ _ _ us hl => match us, hl with | [_], _ => rfl)
abbrev sn_Opart : List Str := ["self", "index"]
theorem sc_Opart : FnScope sn_Opart ["self", "index"] (defScope s_Opart) := ⟨rfl, rfl, rfl, by decide +kernel, rfl, by decide +kernel, by decide +kernel⟩
abbrev sp_Opart (K : Frag) : Sp := SpG (ι := List Po × Nat) (fun _ => True) (fun p => [RO K p.1, RI (p.2 : Int)]) (fun p => RP K (qRow p.1 p.2))
theorem us_Opart {K : Frag} (i : List Po × Nat) (h : (fun _ => True) i) : ∀ vs H Q E, SpF ((fun p => [RO K p.1, RI (p.2 : Int)]) i) ((fun p => RP K (qRow p.1 p.2)) i) vs H Q E → sp_Opart K vs H Q E := fun _ _ _ _ q => ⟨i, h, q⟩
abbrev Fn_Opart (P : Program) (w : World) (K : Frag) (mg : Str → Option Value) (base : Heap) : Prop := ∃ fd, DefF K "part" "Operator.part" s_Opart [] [] (mA K "Operator" "part") fd ∧ FnOk P w K mg base CX0 44 (mA K "Operator" "part") fd ["self", "index"] (sp_Opart K)
theorem fn_Opart (N : En P K mg base) : Fn_Opart P w K mg base := by
  have h_Pi := ok_Pi (w := w) N
  have h_Pi1 := ok_Pi1 (w := w) N
  obtain ⟨T, S, ns, tr⟩ := N
  obtain ⟨fd, F⟩ := S.def_ 27
  refine ⟨fd, F, def_ok F sc_Opart (fun _ => rfl) fun cdv A' outer s H E hr => ⟨_, (pss_cons (ps_if (pt_chain op_le op_lt pe_int (pv 1) (pe_callB call_len_seq (by rfl) T.n_len PySem.boot_len (pa_cons (pe_fld (pv 0) rfl) pa_nil))) (pss_one (ps_ret (pe_ix ix_tup (pe_fld (pv 0) rfl) (pv 1) (fun _ _ => rfl)))) pss_nil)
      (pss_one (ps_ret (pe_makeP h_Pi1 hr (by decide) T.mk_P rfl T.g_P (pa_cons (pe_lst pa_nil) pa_nil))))), fun i hy F0 H0 Q q => ?_⟩⟩
  obtain ⟨l, n⟩ := i
  change SJ F0 H0 _ (ctx [RO K l, RI (n : Int)] _) _
  refine q_when (et_is (et_chain (tc := tVar 0) ev_c (ev_var rfl) (ev_lenP (ev_Oc T (ev_var rfl)))) (c := decide (n < l.length)) ?_) (fun hb => ?_) fun hb => ?_
  · rw [Bool.eq_iff_iff]; simp only [Bool.and_eq_true, decide_eq_true_iff]; omega
  · have h := of_decide_eq_true hb
    refine sj_ret (ev_r (ev_ixT (ev_Oc T (ev_var rfl)) (ev_var rfl) (get_map p0 h)) ?_) q
    show RP K (l.getD n p0) = RP K (qRow l n)
    unfold qRow
    rw [if_pos h]
  · have h := of_decide_eq_false hb
    refine sj_ret (ev_r (ev_make (ea1 (EO.ev (eo_lst ea_nil (by simp)))) (us_Pi (false, [], 1) ⟨by decide, by simp⟩)) ?_) q
    show RP K (mkP [] 1) = RP K (qRow l n)
    unfold qRow
    rw [if_neg h]
    rfl
abbrev Pr_Opart (P : Program) (w : World) (K : Frag) (mg : Str → Option Value) (base : Heap) : Prop := Pr P w K mg base 44 (mA K "Operator" "part") ["self", "index"] [] (sp_Opart K)
theorem ok_Opart (N : En P K mg base) : Pr_Opart P w K mg base := by
  obtain ⟨fd, F, h⟩ := fn_Opart (w := w) N
  exact pr_mk F h (F.bindsN fun _ _ _ _ _ _ us hl => match us, hl with | [_, _], _ => rfl)
abbrev sn_Qi : List Str := ["self", "rows", "kept"]
theorem sc_Qi : FnScope sn_Qi ["self", "rows"] (defScope s_Qi) := ⟨rfl, rfl, rfl, by decide +kernel, rfl, by decide +kernel, by decide +kernel⟩
abbrev sp_Qi (K : Frag) : Sp := SpI (ι := List Po) (cA K "Poly2") (fun l => l.length ≤ 100000) (fun l => [RL (l.map (RP K))]) (fun l => RQ K (mkQ l))
theorem us_Qi {K : Frag} (i : List Po) (h : (fun l => l.length ≤ 100000) i) : ∀ vs H Q E, SpInit (cA K "Poly2") ((fun l => [RL (l.map (RP K))]) i) ((fun l => RQ K (mkQ l)) i) vs H Q E → sp_Qi K vs H Q E := fun _ _ _ _ q => ⟨i, h, q⟩
abbrev Fn_Qi (P : Program) (w : World) (K : Frag) (mg : Str → Option Value) (base : Heap) : Prop := ∃ fd, DefF K "__init__" "Poly2.__init__" s_Qi [] [] (mA K "Poly2" "__init__") fd ∧ FnOk P w K mg base CX0 43 (mA K "Poly2" "__init__") fd ["self", "rows"] (sp_Qi K)
theorem fn_Qi (N : En P K mg base) : Fn_Qi P w K mg base := by
  have h_Pz := ok_Pz (w := w) N
  obtain ⟨T, S, ns, tr⟩ := N
  obtain ⟨fd, F⟩ := S.def_ 28
  refine ⟨fd, F, def_okI F sc_Qi (fun _ => rfl) fun cdv A' outer s H E hr => ⟨_, (pss_cons (ps_set (i := 2) sc_Qi.nd rfl (Or.inl rfl) (pe_callTy call_list_of (by rfl) T.n_list bt_list (pa_cons (pv 1) pa_nil)))
      (pss_cons (ps_while PassesOwn.never (PW.pt (pw_and (pt_cmpR op_gt (pe_callB call_len_seq (by rfl) T.n_len PySem.boot_len (pa_cons (pv 2) pa_nil)) pe_int (nomark _)) (pw_and1 (pt_val (pe_propP h_Pz hr (by decide) T.c_P T.p_Pz (pe_ix ix_list (pv 2) (pe_un un_neg pe_int) (fun _ _ => rfl))))))) (pss_one (ps_expr (pe_bm0 PySem.F.plainAttrs_list PySem.F.slot_list_pop PySem.F.type_list_pop mt_pop (pv 2)))))
      (pss_one (ps_fld (pv 0) (pe_callTy call_tuple_of (by rfl) T.n_tuple bt_tuple (pa_cons (pv 2) pa_nil)) rfl)))), fun i hy F0 H0 Q a dx q => ?_⟩⟩
  obtain ⟨l, rfl⟩ : ∃ zz, zz = i := ⟨i, rfl⟩
  replace hy : l.length ≤ 100000 := hy
  change SJ F0 H0 _ (ctxI (cA K "Poly2") dx a [RL (l.map (RP K))] _) _
  have hl := trimLen_le pZ l
  refine q_asgO (eo_listL (ev_var rfl)) ?_
  refine q_while (l.length - trimLen pZ l) (fun t => [.mk (cA K "Poly2") dx a [] [], .fz (RL (l.map (RP K))), .own ((l.take (l.length - t)).map (RP K))]) ⟨.inr rfl, .inr rfl, .inr (by rw [Nat.sub_zero, List.take_length]), trivial⟩ (fun t ht => ?_) (fun t ht => ?_) ?_
  · have hlt : (l.take (l.length - t)).length = l.length - t := by rw [List.length_take]; omega
    refine et_is (et_and (b := pZ (l.getD (l.length - t - 1) p0)) (et_I (ev_i (ev_lenPO rfl) (by rw [hlt])) ev_c) fun h1 => ?_) ?_
    · have h1' : ((l.length - t : Nat) : Int) > 0 := of_decide_eq_true h1
      refine et_B (ev_Pz (ev_ixOl rfl (ev_neg ev_c) ?_))
      rw [List.length_map, hlt]
      have := get_map (f := RP K) (l := l.take (l.length - t)) (i := l.length - t - 1) p0 (by omega)
      rw [this]
      congr 2
      rw [List.getD_eq_getElem?_getD, List.getD_eq_getElem?_getD, List.getElem?_take, if_pos (by omega)]
    · by_cases h : t < l.length - trimLen pZ l
      · rw [trim_turn h, decide_eq_true h, decide_eq_true (by omega : ((l.length - t : Nat) : Int) > 0)]
        rfl
      · rw [decide_eq_false h]
        by_cases h0 : 0 < trimLen pZ l
        · rw [show l.length - t - 1 = trimLen pZ l - 1 by omega, trim_done h0, Bool.and_false]
        · rw [decide_eq_false (by omega : ¬ ((l.length - t : Nat) : Int) > 0), Bool.false_and]
  · refine sj_pop rfl (by rw [List.length_map, List.length_take]; omega) (nx_sub ⟨.inr rfl, .inr rfl, .inr ?_, trivial⟩)
    rw [← List.map_dropLast, show l.length - t = l.length - (t + 1) + 1 by omega, dropLast_take (by omega)]
  · rw [show l.length - (l.length - trimLen pZ l) = trimLen pZ l by omega]
    refine sj_freeze (i := 2) rfl ?_
    refine sj_fld rfl (ev_tupleL (ev_var rfl)) T.c_Q T.na_Q_rows (by simp) rfl fun v => ?_
    exact nx_made (i := 0) (ns := ["rows"]) rfl rfl q
abbrev Pr_Qi (P : Program) (w : World) (K : Frag) (mg : Str → Option Value) (base : Heap) : Prop := Pr P w K mg base 43 (mA K "Poly2" "__init__") ["self", "rows"] [] (sp_Qi K)
theorem ok_Qi (N : En P K mg base) : Pr_Qi P w K mg base := by
  obtain ⟨fd, F, h⟩ := fn_Qi (w := w) N
  exact pr_mk F h (F.bindsN fun _ _ _ _ _ _ us hl => match us, hl with | [_, _], _ => rfl)
abbrev sn_Qinn : List Str := ["p"]
theorem sc_Qinn : FnScope sn_Qinn ["p"] (defScope s_Qinn) := ⟨rfl, rfl, rfl, by decide +kernel, rfl, by decide +kernel, by decide +kernel⟩
abbrev sp_Qinn (K : Frag) : Sp := SpG (ι := Po) (fun _ => True) (fun p => [RP K p]) (fun p => RQ K (qInN p))
theorem us_Qinn {K : Frag} (i : Po) (h : (fun _ => True) i) : ∀ vs H Q E, SpF ((fun p => [RP K p]) i) ((fun p => RQ K (qInN p)) i) vs H Q E → sp_Qinn K vs H Q E := fun _ _ _ _ q => ⟨i, h, q⟩
abbrev Fn_Qinn (P : Program) (w : World) (K : Frag) (mg : Str → Option Value) (base : Heap) : Prop := ∃ fd, DefF K "in_n" "Poly2.in_n" s_Qinn [] [] (sA K "Poly2" "in_n") fd ∧ FnOk P w K mg base CX0 45 (sA K "Poly2" "in_n") fd ["p"] (sp_Qinn K)
theorem fn_Qinn (N : En P K mg base) : Fn_Qinn P w K mg base := by
  have h_Qi := ok_Qi (w := w) N
  obtain ⟨T, S, ns, tr⟩ := N
  obtain ⟨fd, F⟩ := S.def_ 29
  refine ⟨fd, F, def_ok F sc_Qinn (fun _ => rfl) fun cdv A' outer s H E hr => ⟨_, (pss_one (ps_ret (pe_makeP h_Qi hr (by decide) T.mk_Q rfl T.g_Q (pa_cons (pe_lst (pa_cons (pv 0) pa_nil)) pa_nil)))), fun i hy F0 H0 Q q => ?_⟩⟩
  exact sj_ret (ev_make (ea1 (EO.ev (eo_lst (ea1 (ev_var rfl)) (by simp)))) (us_Qi [i] (by simp))) q
abbrev Pr_Qinn (P : Program) (w : World) (K : Frag) (mg : Str → Option Value) (base : Heap) : Prop := Pr P w K mg base 45 (sA K "Poly2" "in_n") ["p"] [] (sp_Qinn K)
theorem ok_Qinn (N : En P K mg base) : Pr_Qinn P w K mg base := by
  obtain ⟨fd, F, h⟩ := fn_Qinn (w := w) N
  exact pr_mk F h (F.bindsN fun _ _ _ _ _ _ us hl => match us, hl with | [_], _ => rfl)
abbrev sn_Qline : List Str := ["n_factor", "k_factor", "offset"]
theorem sc_Qline : FnScope sn_Qline ["n_factor", "k_factor", "offset"] (defScope s_Qline) := ⟨rfl, rfl, rfl, by decide +kernel, rfl, by decide +kernel, by decide +kernel⟩
abbrev sp_Qline (K : Frag) : Sp := SpG (ι := Int × Int × Int) (fun _ => True) (fun p => [RI p.1, RI p.2.1, RI p.2.2]) (fun p => RQ K (qLine p.1 p.2.1 p.2.2))
theorem us_Qline {K : Frag} (i : Int × Int × Int) (h : (fun _ => True) i) : ∀ vs H Q E, SpF ((fun p => [RI p.1, RI p.2.1, RI p.2.2]) i) ((fun p => RQ K (qLine p.1 p.2.1 p.2.2)) i) vs H Q E → sp_Qline K vs H Q E := fun _ _ _ _ q => ⟨i, h, q⟩
abbrev Fn_Qline (P : Program) (w : World) (K : Frag) (mg : Str → Option Value) (base : Heap) : Prop := ∃ fd, DefF K "line" "Poly2.line" s_Qline [] [] (sA K "Poly2" "line") fd ∧ FnOk P w K mg base CX0 45 (sA K "Poly2" "line") fd ["n_factor", "k_factor", "offset"] (sp_Qline K)
theorem fn_Qline (N : En P K mg base) : Fn_Qline P w K mg base := by
  have h_Qi := ok_Qi (w := w) N
  have h_Pi := ok_Pi (w := w) N
  have h_Pi1 := ok_Pi1 (w := w) N
  obtain ⟨T, S, ns, tr⟩ := N
  obtain ⟨fd, F⟩ := S.def_ 30
  refine ⟨fd, F, def_ok F sc_Qline (fun _ => rfl) fun cdv A' outer s H E hr => ⟨_, (pss_one (ps_ret (pe_makeP h_Qi hr (by decide) T.mk_Q rfl T.g_Q (pa_cons (pe_lst (pa_cons (pe_makeP h_Pi1 hr (by decide) T.mk_P rfl T.g_P (pa_cons (pe_lst (pa_cons (pv 2) (pa_cons (pv 0) pa_nil))) pa_nil)) (pa_cons (pe_makeP h_Pi1 hr (by decide) T.mk_P rfl T.g_P (pa_cons (pe_lst (pa_cons (pv 1) pa_nil)) pa_nil)) pa_nil))) pa_nil)))), fun i hy F0 H0 Q q => ?_⟩⟩
  obtain ⟨x, y, z⟩ := i
  change SJ F0 H0 _ (ctx [RI x, RI y, RI z] _) _
  exact sj_ret (ev_make (ea1 (EO.ev (eo_lst (ea2 (ev_make (ea1 (EO.ev (eo_lst (ea2 (ev_var rfl) (ev_var rfl)) (by simp)))) (us_Pi (false, [z, x], 1) ⟨one_ne, by simp⟩)) (ev_make (ea1 (EO.ev (eo_lst (ea1 (ev_var rfl)) (by simp)))) (us_Pi (false, [y], 1) ⟨one_ne, by simp⟩))) (by simp)))) (us_Qi [mkP [z, x] 1, mkP [y] 1] (by simp))) q
abbrev Pr_Qline (P : Program) (w : World) (K : Frag) (mg : Str → Option Value) (base : Heap) : Prop := Pr P w K mg base 45 (sA K "Poly2" "line") ["n_factor", "k_factor", "offset"] [] (sp_Qline K)
theorem ok_Qline (N : En P K mg base) : Pr_Qline P w K mg base := by
  obtain ⟨fd, F, h⟩ := fn_Qline (w := w) N
  exact pr_mk F h (F.bindsN fun _ _ _ _ _ _ us hl => match us, hl with | [_, _, _], _ => rfl)
abbrev sn_Qdk : List Str := ["self"]
theorem sc_Qdk : FnScope sn_Qdk ["self"] (defScope s_Qdk) := ⟨rfl, rfl, rfl, by decide +kernel, rfl, by decide +kernel, by decide +kernel⟩
abbrev sp_Qdk (K : Frag) : Sp := SpG (ι := Q2) (fun _ => True) (fun l => [RQ K l]) (fun l => RI (qDk l))
theorem us_Qdk {K : Frag} (i : Q2) (h : (fun _ => True) i) : ∀ vs H Q E, SpF ((fun l => [RQ K l]) i) ((fun l => RI (qDk l)) i) vs H Q E → sp_Qdk K vs H Q E := fun _ _ _ _ q => ⟨i, h, q⟩
abbrev Fn_Qdk (P : Program) (w : World) (K : Frag) (mg : Str → Option Value) (base : Heap) : Prop := ∃ fd, DefF K "degree_k" "Poly2.degree_k" s_Qdk [] [] (pA K "Poly2" "degree_k") fd ∧ FnOk P w K mg base CX0 41 (pA K "Poly2" "degree_k") fd ["self"] (sp_Qdk K)
theorem fn_Qdk (N : En P K mg base) : Fn_Qdk P w K mg base := by
  obtain ⟨T, S, ns, tr⟩ := N
  obtain ⟨fd, F⟩ := S.def_ 31
  refine ⟨fd, F, def_ok F sc_Qdk (fun _ => rfl) fun cdv A' outer s H E hr => ⟨_, (pss_one (ps_ret (pe_op op_sub (pe_callB call_len_seq (by rfl) T.n_len PySem.boot_len (pa_cons (pe_fld (pv 0) rfl) pa_nil)) pe_int))), fun i hy F0 H0 Q q => ?_⟩⟩
  exact sj_ret (ev_sub (ev_lenP (ev_Qr T (ev_var rfl))) ev_c) q
abbrev Pr_Qdk (P : Program) (w : World) (K : Frag) (mg : Str → Option Value) (base : Heap) : Prop := Pr P w K mg base 41 (pA K "Poly2" "degree_k") ["self"] [] (sp_Qdk K)
theorem ok_Qdk (N : En P K mg base) : Pr_Qdk P w K mg base := by
  obtain ⟨fd, F, h⟩ := fn_Qdk (w := w) N
  exact pr_mk F h (F.bindsN fun _ _ _ _ _ _ us hl => match us, hl with | [_], _ => rfl)
abbrev sn_Qz : List Str := ["self"]
theorem sc_Qz : FnScope sn_Qz ["self"] (defScope s_Qz) := ⟨rfl, rfl, rfl, by decide +kernel, rfl, by decide +kernel, by decide +kernel⟩
abbrev sp_Qz (K : Frag) : Sp := SpG (ι := Q2) (fun _ => True) (fun l => [RQ K l]) (fun l => RB (decide (l.length = 0)))
theorem us_Qz {K : Frag} (i : Q2) (h : (fun _ => True) i) : ∀ vs H Q E, SpF ((fun l => [RQ K l]) i) ((fun l => RB (decide (l.length = 0))) i) vs H Q E → sp_Qz K vs H Q E := fun _ _ _ _ q => ⟨i, h, q⟩
abbrev Fn_Qz (P : Program) (w : World) (K : Frag) (mg : Str → Option Value) (base : Heap) : Prop := ∃ fd, DefF K "is_zero" "Poly2.is_zero" s_Qz [] [] (pA K "Poly2" "is_zero") fd ∧ FnOk P w K mg base CX0 41 (pA K "Poly2" "is_zero") fd ["self"] (sp_Qz K)
theorem fn_Qz (N : En P K mg base) : Fn_Qz P w K mg base := by
  obtain ⟨T, S, ns, tr⟩ := N
  obtain ⟨fd, F⟩ := S.def_ 32
  refine ⟨fd, F, def_ok F sc_Qz (fun _ => rfl) fun cdv A' outer s H E hr => ⟨_, (pss_one (ps_ret (pe_cmpR op_eq (pe_callB call_len_seq (by rfl) T.n_len PySem.boot_len (pa_cons (pe_fld (pv 0) rfl) pa_nil)) pe_int (nomark _)))), fun i hy F0 H0 Q q => ?_⟩⟩
  refine sj_ret (ev_b (ev_eqI (ev_lenP (ev_Qr T (ev_var rfl))) ev_c) ?_) q
  rw [Bool.eq_iff_iff, decide_eq_true_iff, decide_eq_true_iff]
  omega
abbrev Pr_Qz (P : Program) (w : World) (K : Frag) (mg : Str → Option Value) (base : Heap) : Prop := Pr P w K mg base 41 (pA K "Poly2" "is_zero") ["self"] [] (sp_Qz K)
theorem ok_Qz (N : En P K mg base) : Pr_Qz P w K mg base := by
  obtain ⟨fd, F, h⟩ := fn_Qz (w := w) N
  exact pr_mk F h (F.bindsN fun _ _ _ _ _ _ us hl => match us, hl with | [_], _ => rfl)
abbrev sn_Qrow : List Str := ["self", "index"]
theorem sc_Qrow : FnScope sn_Qrow ["self", "index"] (defScope s_Qrow) := ⟨rfl, rfl, rfl, by decide +kernel, rfl, by decide +kernel, by decide +kernel⟩
abbrev sp_Qrow (K : Frag) : Sp := SpG (ι := Q2 × Nat) (fun _ => True) (fun p => [RQ K p.1, RI (p.2 : Int)]) (fun p => RP K (qRow p.1 p.2))
theorem us_Qrow {K : Frag} (i : Q2 × Nat) (h : (fun _ => True) i) : ∀ vs H Q E, SpF ((fun p => [RQ K p.1, RI (p.2 : Int)]) i) ((fun p => RP K (qRow p.1 p.2)) i) vs H Q E → sp_Qrow K vs H Q E := fun _ _ _ _ q => ⟨i, h, q⟩
abbrev Fn_Qrow (P : Program) (w : World) (K : Frag) (mg : Str → Option Value) (base : Heap) : Prop := ∃ fd, DefF K "row" "Poly2.row" s_Qrow [] [] (mA K "Poly2" "row") fd ∧ FnOk P w K mg base CX0 44 (mA K "Poly2" "row") fd ["self", "index"] (sp_Qrow K)
theorem fn_Qrow (N : En P K mg base) : Fn_Qrow P w K mg base := by
  have h_Pi := ok_Pi (w := w) N
  have h_Pi1 := ok_Pi1 (w := w) N
  obtain ⟨T, S, ns, tr⟩ := N
  obtain ⟨fd, F⟩ := S.def_ 33
  refine ⟨fd, F, def_ok F sc_Qrow (fun _ => rfl) fun cdv A' outer s H E hr => ⟨_, (pss_cons (ps_if (pt_chain op_le op_lt pe_int (pv 1) (pe_callB call_len_seq (by rfl) T.n_len PySem.boot_len (pa_cons (pe_fld (pv 0) rfl) pa_nil))) (pss_one (ps_ret (pe_ix ix_tup (pe_fld (pv 0) rfl) (pv 1) (fun _ _ => rfl)))) pss_nil)
      (pss_one (ps_ret (pe_makeP h_Pi1 hr (by decide) T.mk_P rfl T.g_P (pa_cons (pe_lst pa_nil) pa_nil))))), fun i hy F0 H0 Q q => ?_⟩⟩
  obtain ⟨l, n⟩ := i
  change SJ F0 H0 _ (ctx [RQ K l, RI (n : Int)] _) _
  refine q_when (et_is (et_chain (tc := tVar 0) ev_c (ev_var rfl) (ev_lenP (ev_Qr T (ev_var rfl)))) (c := decide (n < l.length)) ?_) (fun hb => ?_) fun hb => ?_
  · rw [Bool.eq_iff_iff]; simp only [Bool.and_eq_true, decide_eq_true_iff]; omega
  · have h := of_decide_eq_true hb
    refine sj_ret (ev_r (ev_ixT (ev_Qr T (ev_var rfl)) (ev_var rfl) (get_map p0 h)) ?_) q
    show RP K (l.getD n p0) = RP K (qRow l n)
    unfold qRow
    rw [if_pos h]
  · have h := of_decide_eq_false hb
    refine sj_ret (ev_r (ev_make (ea1 (EO.ev (eo_lst ea_nil (by simp)))) (us_Pi (false, [], 1) ⟨by decide, by simp⟩)) ?_) q
    show RP K (mkP [] 1) = RP K (qRow l n)
    unfold qRow
    rw [if_neg h]
    rfl
abbrev Pr_Qrow (P : Program) (w : World) (K : Frag) (mg : Str → Option Value) (base : Heap) : Prop := Pr P w K mg base 44 (mA K "Poly2" "row") ["self", "index"] [] (sp_Qrow K)
theorem ok_Qrow (N : En P K mg base) : Pr_Qrow P w K mg base := by
  obtain ⟨fd, F, h⟩ := fn_Qrow (w := w) N
  exact pr_mk F h (F.bindsN fun _ _ _ _ _ _ us hl => match us, hl with | [_, _], _ => rfl)
abbrev sn_Qeq : List Str := ["self", "other"]
theorem sc_Qeq : FnScope sn_Qeq ["self", "other"] (defScope s_Qeq) := ⟨rfl, rfl, rfl, by decide +kernel, rfl, by decide +kernel, by decide +kernel⟩
abbrev sp_Qeq (K : Frag) : Sp := SpG (ι := Q2) (fun _ => True) (fun l => [RQ K l, RQ K l]) (fun _ => RB true)
theorem us_Qeq {K : Frag} (i : Q2) (h : (fun _ => True) i) : ∀ vs H Q E, SpF ((fun l => [RQ K l, RQ K l]) i) ((fun _ => RB true) i) vs H Q E → sp_Qeq K vs H Q E := fun _ _ _ _ q => ⟨i, h, q⟩
abbrev Fn_Qeq (P : Program) (w : World) (K : Frag) (mg : Str → Option Value) (base : Heap) : Prop := ∃ fd, DefF K "__eq__" "Poly2.__eq__" s_Qeq [] [] (mA K "Poly2" "__eq__") fd ∧ FnOk P w K mg base CX0 43 (mA K "Poly2" "__eq__") fd ["self", "other"] (sp_Qeq K)
theorem fn_Qeq (N : En P K mg base) : Fn_Qeq P w K mg base := by
  have h_Peq := ok_Peq (w := w) N
  obtain ⟨T, S, ns, tr⟩ := N
  obtain ⟨fd, F⟩ := S.def_ 34
  refine ⟨fd, F, def_ok F sc_Qeq (fun _ => rfl) fun cdv A' outer s H E hr => ⟨_, (pss_one (ps_ret (pe_and (pe_callB call_isi (by rfl) T.n_isinstance bt_isi (pa_cons (pv 1) (pa_cons (pe_glob rfl T.g_Q (show RelV (V.ref _) _ from rfl)) pa_nil))) (pe_one (pe_cmpR (op_eqQ T h_Peq hr (by decide)) (pe_fld (pv 0) rfl) (pe_fld (pv 1) rfl) (nomark _)))))), fun i hy F0 H0 Q q => ?_⟩⟩
  exact sj_ret (ev_b (ev_andV (ev_isi (ev_var rfl) (rn_no (by decide)) T.c_Q T.i_Q) fun _ => ev_eqTP (ev_Qr T (ev_var rfl)) (ev_Qr T (ev_var rfl))) rfl) q
abbrev Pr_Qeq (P : Program) (w : World) (K : Frag) (mg : Str → Option Value) (base : Heap) : Prop := Pr P w K mg base 43 (mA K "Poly2" "__eq__") ["self", "other"] [] (sp_Qeq K)
theorem ok_Qeq (N : En P K mg base) : Pr_Qeq P w K mg base := by
  obtain ⟨fd, F, h⟩ := fn_Qeq (w := w) N
  exact pr_mk F h (F.bindsN fun _ _ _ _ _ _ us hl => match us, hl with | [_, _], _ => rfl)
end
end G
end
section
set_option maxRecDepth 100000
set_option maxHeartbeats 4000000
namespace G
open PySem PySem.Spec PyProof.Rows L2 He
open _root_.RT (ItvT iRevA pi_revA)
section
variable {P : Program} {w : World} {K : Frag} {mg : Str → Option Value} {base : Heap}
section
variable {Γ : List Ty} {ta tb te : TE} {p : Po} {q : Q2} {l : List Po} {i : Nat}
theorem ev_Qrow (h : EV Γ ta (RQ K q)) (hi : EV Γ tb (RI (i : Int))) : EV Γ (tMeth (cA K "Poly2") "row" (sp_Qrow K) [] E0 ta (tCons tb tNil)) (RP K (qRow q i)) := ev_meth h (rn_no (by decide)) (ea1 hi) (us_Qrow (q, i) trivial)
theorem ev_Padd {x y : Po} {a b La Lb : Nat} (h : EV Γ ta (RP K x)) (h2 : EV Γ tb (RP K y)) (hx : ZP a La x) (hy : ZP b Lb y) (hs : a + b < 130000000) (hl : La ≤ 100000) (hl2 : Lb ≤ 100000) :
    EV Γ (tOp (rOwn2 (cA K "Poly") (sp_Padd K)) ta tb) (RP K (pAdd x y)) := ev_own2 h h2 rn_is rn_is (us_Padd (x, y) ⟨a, b, hx.1, hy.1, hs, Nat.le_trans hx.2 hl, Nat.le_trans hy.2 hl2⟩)
theorem ev_Psub {x y : Po} {a b La Lb : Nat} (h : EV Γ ta (RP K x)) (h2 : EV Γ tb (RP K y)) (hx : ZP a La x) (hy : ZP b Lb y) (hs : a + b < 130000000) (hl : La ≤ 100000) (hl2 : Lb ≤ 100000) :
    EV Γ (tOp (rOwn2 (cA K "Poly") (sp_Psub K)) ta tb) (RP K (pSub x y)) := ev_own2 h h2 rn_is rn_is (us_Psub (x, y) ⟨a, b, hx.1, hy.1, hs, Nat.le_trans hx.2 hl, Nat.le_trans hy.2 hl2⟩)
theorem ev_Pmul {x y : Po} {a b La Lb : Nat} (h : EV Γ ta (RP K x)) (h2 : EV Γ tb (RP K y)) (hx : ZP a La x) (hy : ZP b Lb y) (hs : a + b < 130000000) (hl : La + Lb ≤ 100000) :
    EV Γ (tOp (rOwn2 (cA K "Poly") (sp_Pmul K)) ta tb) (RP K (pMul x y)) := ev_own2 h h2 rn_is rn_is (us_Pmul (x, y) ⟨a, b, hx.1, hy.1, hs, by have := hx.2; have := hy.2; show x.co.length + y.co.length ≤ 100000; omega⟩)
theorem ev_Pneg {x : Po} {a La : Nat} (h : EV Γ ta (RP K x)) (hx : ZP a La x) (hl : La ≤ 100000) : EV Γ (tUn (rOwn1 (cA K "Poly") (sp_Pneg K)) ta) (RP K (pNeg x)) := ev_own1 h rn_is (us_Pneg x ⟨hx.1.1, Nat.le_trans hx.2 hl⟩)
theorem ev_Pscaled {x : Po} {f : Fr} {a b La : Nat} (h : EV Γ ta (RP K x)) (h2 : EV Γ tb (RF K f)) (hx : ZP a La x) (hf : SzF b f) (hs : a + b < 130000000) (hl : La ≤ 100000) :
    EV Γ (tMeth (cA K "Poly") "scaled" (sp_Pscaled K) [] E0 ta (tCons tb tNil)) (RP K (pScaled x f)) := ev_meth h (rn_no (by decide)) (ea1 h2) (us_Pscaled (x, f) ⟨a, b, a, b, hx.1, hf, hs, hs, Nat.le_trans hx.2 hl⟩)
theorem range_map {α : Type} {f : Nat → α} {g : α → Rp} {n i : Nat} {R : Rp} (h : (((List.range n).map f).map g)[i]? = some R) : i < n ∧ R = g (f i) := by
  rw [List.map_map] at h
  have hi := (List.getElem?_eq_some_iff.mp h).1
  rw [List.length_map, List.length_range] at hi
  rw [List.getElem?_map, List.getElem?_range hi] at h
  exact ⟨hi, (Option.some.inj h).symm⟩
end
abbrev sn_Qadd : List Str := ["self", "other", "size", "i"]
theorem sc_Qadd : FnScope sn_Qadd ["self", "other"] (defScope s_Qadd) := ⟨rfl, rfl, rfl, by decide +kernel, rfl, by decide +kernel, by decide +kernel⟩
abbrev sp_Qadd (K : Frag) : Sp := SpG (ι := Q2 × Q2) (fun p => ∃ a b La Lb Ma Mb, ZQ a La Ma p.1 ∧ ZQ b Lb Mb p.2 ∧ a + b < 130000000 ∧ La ≤ 100000 ∧ Lb ≤ 100000 ∧ Ma ≤ 100000 ∧ Mb ≤ 100000) (fun p => [RQ K p.1, RQ K p.2]) (fun p => RQ K (qAdd p.1 p.2))
theorem us_Qadd {K : Frag} (i : Q2 × Q2) (h : (fun p => ∃ a b La Lb Ma Mb, ZQ a La Ma p.1 ∧ ZQ b Lb Mb p.2 ∧ a + b < 130000000 ∧ La ≤ 100000 ∧ Lb ≤ 100000 ∧ Ma ≤ 100000 ∧ Mb ≤ 100000) i) : ∀ vs H Q E, SpF ((fun p => [RQ K p.1, RQ K p.2]) i) ((fun p => RQ K (qAdd p.1 p.2)) i) vs H Q E → sp_Qadd K vs H Q E := fun _ _ _ _ q => ⟨i, h, q⟩
abbrev Fn_Qadd (P : Program) (w : World) (K : Frag) (mg : Str → Option Value) (base : Heap) : Prop := ∃ fd, DefF K "__add__" "Poly2.__add__" s_Qadd [] [] (mA K "Poly2" "__add__") fd ∧ FnOk P w K mg base CX0 45 (mA K "Poly2" "__add__") fd ["self", "other"] (sp_Qadd K)
theorem fn_Qadd (N : En P K mg base) : Fn_Qadd P w K mg base := by
  have h_Qi := ok_Qi (w := w) N
  have h_Qrow := ok_Qrow (w := w) N
  have h_Padd := ok_Padd (w := w) N
  obtain ⟨T, S, ns, tr⟩ := N
  obtain ⟨fd, F⟩ := S.def_ 35
  refine ⟨fd, F, def_ok F sc_Qadd (fun _ => rfl) fun cdv A' outer s H E hr => ⟨_, (pss_cons (ps_set (i := 2) sc_Qadd.nd rfl (Or.inl rfl) (pe_callB (cr_max2 rfl) (by rfl) T.n_max bt_max (pa_cons (pe_callB call_len_seq (by rfl) T.n_len PySem.boot_len (pa_cons (pe_fld (pv 0) rfl) pa_nil)) (pa_cons (pe_callB call_len_seq (by rfl) T.n_len PySem.boot_len (pa_cons (pe_fld (pv 1) rfl) pa_nil)) pa_nil))))
      (pss_one (ps_ret (pe_makeP h_Qi hr (by decide) T.mk_Q rfl T.g_Q (pa_cons (pe_lc (own := [("i", 3)]) (g := gName 3) (by rfl) sc_Qadd.nd (pi_range1 rfl T.n_range (pa_cons (pv 2) pa_nil)) (blkOk_by (own := [("i", 3)]) (N := sn_Qadd) (sc := defScope s_Qadd) (by decide +kernel)) (fun _ _ _ _ _ => (pg_name (i := 3) sc_Qadd.nd rfl (by first | exact Or.inl rfl | exact Or.inr rfl))) (fun _ _ _ _ _ => pts_nil) (fun _ _ _ _ _ => (pe_op (op_bin h_Padd T.o_Padd.at_ T.o_Padd.fn T.f_P hr (by decide)) (pe_methP h_Qrow hr (by decide) T.c_Q T.m_Qrow (pv 0) (pa_cons (pv 3) pa_nil)) (pe_methP h_Qrow hr (by decide) T.c_Q T.m_Qrow (pv 1) (pa_cons (pv 3) pa_nil))))) pa_nil))))), fun i hy F0 H0 Q q => ?_⟩⟩
  obtain ⟨x, y⟩ := i
  replace hy : ∃ a b La Lb Ma Mb, ZQ a La Ma x ∧ ZQ b Lb Mb y ∧ a + b < 130000000 ∧ La ≤ 100000 ∧ Lb ≤ 100000 ∧ Ma ≤ 100000 ∧ Mb ≤ 100000 := hy
  change SJ F0 H0 _ (ctx [RQ K x, RQ K y] _) _
  obtain ⟨a, b, La, Lb, Ma, Mb, hx, hy, hs, hL1, hL2, hM1, hM2⟩ := hy
  have hx1 := hx.1
  have hy1 := hy.1
  refine q_asg (ev_i (j := ((max x.length y.length : Nat) : Int)) (ev_max2 (ev_lenP (ev_Qr T (ev_var rfl))) (ev_lenP (ev_Qr T (ev_var rfl)))) (by omega)) ?_
  refine sj_ret (ev_make (ea1 (EO.ev (eo_lc1 (n := ((max x.length y.length : Nat) : Int)) (Rs := ((List.range (max x.length y.length)).map fun i => pAdd (qRow x i) (qRow y i)).map (RP K)) (ea1 (ev_var rfl)) (by omega) ?_ (by omega) (fun T hT => cond_mov rfl rfl hT) fun n R hR => ?_))) (us_Qi _ ?_)) q
  · rw [List.length_map, List.length_map, List.length_range]; omega
  · obtain ⟨hn, rfl⟩ := range_map hR
    exact ev_Padd (ev_Qrow (ev_var rfl) (ev_var rfl)) (ev_Qrow (ev_var rfl) (ev_var rfl)) (zp_qRow hx n) (zp_qRow hy n) hs hL1 hL2
  · rw [List.length_map, List.length_range]; omega
abbrev Pr_Qadd (P : Program) (w : World) (K : Frag) (mg : Str → Option Value) (base : Heap) : Prop := Pr P w K mg base 45 (mA K "Poly2" "__add__") ["self", "other"] [] (sp_Qadd K)
theorem ok_Qadd (N : En P K mg base) : Pr_Qadd P w K mg base := by
  obtain ⟨fd, F, h⟩ := fn_Qadd (w := w) N
  exact pr_mk F h (F.bindsN fun _ _ _ _ _ _ us hl => match us, hl with | [_, _], _ => rfl)
abbrev sn_Qneg : List Str := ["self", "row"]
theorem sc_Qneg : FnScope sn_Qneg ["self"] (defScope s_Qneg) := ⟨rfl, rfl, rfl, by decide +kernel, rfl, by decide +kernel, by decide +kernel⟩
abbrev sp_Qneg (K : Frag) : Sp := SpG (ι := Q2) (fun x => ∃ a La Ma, ZQ a La Ma x ∧ La ≤ 100000 ∧ Ma ≤ 100000) (fun x => [RQ K x]) (fun x => RQ K (qNeg x))
theorem us_Qneg {K : Frag} (i : Q2) (h : (fun x => ∃ a La Ma, ZQ a La Ma x ∧ La ≤ 100000 ∧ Ma ≤ 100000) i) : ∀ vs H Q E, SpF ((fun x => [RQ K x]) i) ((fun x => RQ K (qNeg x)) i) vs H Q E → sp_Qneg K vs H Q E := fun _ _ _ _ q => ⟨i, h, q⟩
abbrev Fn_Qneg (P : Program) (w : World) (K : Frag) (mg : Str → Option Value) (base : Heap) : Prop := ∃ fd, DefF K "__neg__" "Poly2.__neg__" s_Qneg [] [] (mA K "Poly2" "__neg__") fd ∧ FnOk P w K mg base CX0 45 (mA K "Poly2" "__neg__") fd ["self"] (sp_Qneg K)
theorem fn_Qneg (N : En P K mg base) : Fn_Qneg P w K mg base := by
  have h_Qi := ok_Qi (w := w) N
  have h_Pneg := ok_Pneg (w := w) N
  obtain ⟨T, S, ns, tr⟩ := N
  obtain ⟨fd, F⟩ := S.def_ 37
  refine ⟨fd, F, def_ok F sc_Qneg (fun _ => rfl) fun cdv A' outer s H E hr => ⟨_, (pss_one (ps_ret (pe_makeP h_Qi hr (by decide) T.mk_Q rfl T.g_Q (pa_cons (pe_lc (own := [("row", 1)]) (g := gName 1) (by rfl) sc_Qneg.nd (pi_tup (pe_fldK K rfl (pv 0) rfl)) (blkOk_by (own := [("row", 1)]) (N := sn_Qneg) (sc := defScope s_Qneg) (by decide +kernel)) (fun _ _ _ _ _ => (pg_name (i := 1) sc_Qneg.nd rfl (by first | exact Or.inl rfl | exact Or.inr rfl))) (fun _ _ _ _ _ => pts_nil) (fun _ _ _ _ _ => (pe_un (un_negOwn h_Pneg T.o_Pneg.at_ T.o_Pneg.fn hr (by decide)) (pv 1)))) pa_nil)))), fun i hy F0 H0 Q q => ?_⟩⟩
  obtain ⟨a, La, Ma, hx, hL, hM⟩ := hy
  have hx1 := hx.1
  refine sj_ret (ev_make (ea1 (EO.ev (eo_lcT (Rs := (i.map pNeg).map (RP K)) (ev_Qr T (ev_var rfl)) (by rw [List.length_map, List.length_map, List.length_map]) (by rw [List.length_map, List.length_map]; omega) (fun T hT => cond_mov rfl rfl hT) fun n S R hS hR => ?_))) (us_Qi _ (by rw [List.length_map]; omega))) q
  obtain ⟨h1, rfl⟩ := map_get p0 hS
  rw [List.map_map] at hR
  obtain ⟨_, rfl⟩ := map_get (f := RP K ∘ pNeg) p0 hR
  exact ev_Pneg (ev_var rfl) (hx.get n) hL
abbrev Pr_Qneg (P : Program) (w : World) (K : Frag) (mg : Str → Option Value) (base : Heap) : Prop := Pr P w K mg base 45 (mA K "Poly2" "__neg__") ["self"] [] (sp_Qneg K)
theorem ok_Qneg (N : En P K mg base) : Pr_Qneg P w K mg base := by
  obtain ⟨fd, F, h⟩ := fn_Qneg (w := w) N
  exact pr_mk F h (F.bindsN fun _ _ _ _ _ _ us hl => match us, hl with | [_], _ => rfl)
abbrev sn_Qsub : List Str := ["self", "other"]
theorem sc_Qsub : FnScope sn_Qsub ["self", "other"] (defScope s_Qsub) := ⟨rfl, rfl, rfl, by decide +kernel, rfl, by decide +kernel, by decide +kernel⟩
abbrev sp_Qsub (K : Frag) : Sp := SpG (ι := Q2 × Q2) (fun p => ∃ a b La Lb Ma Mb, ZQ a La Ma p.1 ∧ ZQ b Lb Mb p.2 ∧ a + b < 130000000 ∧ La ≤ 100000 ∧ Lb ≤ 100000 ∧ Ma ≤ 100000 ∧ Mb ≤ 100000) (fun p => [RQ K p.1, RQ K p.2]) (fun p => RQ K (qSub p.1 p.2))
theorem us_Qsub {K : Frag} (i : Q2 × Q2) (h : (fun p => ∃ a b La Lb Ma Mb, ZQ a La Ma p.1 ∧ ZQ b Lb Mb p.2 ∧ a + b < 130000000 ∧ La ≤ 100000 ∧ Lb ≤ 100000 ∧ Ma ≤ 100000 ∧ Mb ≤ 100000) i) : ∀ vs H Q E, SpF ((fun p => [RQ K p.1, RQ K p.2]) i) ((fun p => RQ K (qSub p.1 p.2)) i) vs H Q E → sp_Qsub K vs H Q E := fun _ _ _ _ q => ⟨i, h, q⟩
abbrev Fn_Qsub (P : Program) (w : World) (K : Frag) (mg : Str → Option Value) (base : Heap) : Prop := ∃ fd, DefF K "__sub__" "Poly2.__sub__" s_Qsub [] [] (mA K "Poly2" "__sub__") fd ∧ FnOk P w K mg base CX0 46 (mA K "Poly2" "__sub__") fd ["self", "other"] (sp_Qsub K)
theorem fn_Qsub (N : En P K mg base) : Fn_Qsub P w K mg base := by
  have h_Qneg := ok_Qneg (w := w) N
  have h_Qadd := ok_Qadd (w := w) N
  obtain ⟨T, S, ns, tr⟩ := N
  obtain ⟨fd, F⟩ := S.def_ 36
  refine ⟨fd, F, def_ok F sc_Qsub (fun _ => rfl) fun cdv A' outer s H E hr => ⟨_, (pss_one (ps_ret (pe_op (op_bin h_Qadd T.o_Qadd.at_ T.o_Qadd.fn T.f_Q hr (by decide)) (pv 0) (pe_un (un_negOwn h_Qneg T.o_Qneg.at_ T.o_Qneg.fn hr (by decide)) (pv 1))))), fun i hy F0 H0 Q q => ?_⟩⟩
  obtain ⟨x, y⟩ := i
  replace hy : ∃ a b La Lb Ma Mb, ZQ a La Ma x ∧ ZQ b Lb Mb y ∧ a + b < 130000000 ∧ La ≤ 100000 ∧ Lb ≤ 100000 ∧ Ma ≤ 100000 ∧ Mb ≤ 100000 := hy
  change SJ F0 H0 _ (ctx [RQ K x, RQ K y] _) _
  obtain ⟨a, b, La, Lb, Ma, Mb, hx, hy, hs, hL1, hL2, hM1, hM2⟩ := hy
  exact sj_ret (ev_own2 (ev_var rfl) (ev_own1 (ev_var rfl) rn_is (us_Qneg y ⟨b, Lb, Mb, hy, hL2, hM2⟩)) rn_is rn_is (us_Qadd (x, qNeg y) ⟨a, b, La, Lb, Ma, Mb, hx, zq_neg hy, hs, hL1, hL2, hM1, hM2⟩)) q
abbrev Pr_Qsub (P : Program) (w : World) (K : Frag) (mg : Str → Option Value) (base : Heap) : Prop := Pr P w K mg base 46 (mA K "Poly2" "__sub__") ["self", "other"] [] (sp_Qsub K)
theorem ok_Qsub (N : En P K mg base) : Pr_Qsub P w K mg base := by
  obtain ⟨fd, F, h⟩ := fn_Qsub (w := w) N
  exact pr_mk F h (F.bindsN fun _ _ _ _ _ _ us hl => match us, hl with | [_, _], _ => rfl)
abbrev sn_Qmul : List Str := ["self", "other", "rows", "i", "a", "j", "b", "_"]
theorem sc_Qmul : FnScope sn_Qmul ["self", "other"] (defScope s_Qmul) := ⟨rfl, rfl, rfl, by decide +kernel, rfl, by decide +kernel, by decide +kernel⟩
abbrev sp_Qmul (K : Frag) : Sp := SpG (ι := Q2 × Q2) (fun p => ∃ a b La Lb Ma Mb, ZQ a La Ma p.1 ∧ ZQ b Lb Mb p.2 ∧ (Ma + 1) * (a + b + La + 3) < 130000000 ∧ La + Lb ≤ 100000 ∧ Ma + Mb ≤ 100000) (fun p => [RQ K p.1, RQ K p.2]) (fun p => RQ K (qMul p.1 p.2))
theorem us_Qmul {K : Frag} (i : Q2 × Q2) (h : (fun p => ∃ a b La Lb Ma Mb, ZQ a La Ma p.1 ∧ ZQ b Lb Mb p.2 ∧ (Ma + 1) * (a + b + La + 3) < 130000000 ∧ La + Lb ≤ 100000 ∧ Ma + Mb ≤ 100000) i) : ∀ vs H Q E, SpF ((fun p => [RQ K p.1, RQ K p.2]) i) ((fun p => RQ K (qMul p.1 p.2)) i) vs H Q E → sp_Qmul K vs H Q E := fun _ _ _ _ q => ⟨i, h, q⟩
abbrev Fn_Qmul (P : Program) (w : World) (K : Frag) (mg : Str → Option Value) (base : Heap) : Prop := ∃ fd, DefF K "__mul__" "Poly2.__mul__" s_Qmul [] [] (mA K "Poly2" "__mul__") fd ∧ FnOk P w K mg base CX0 45 (mA K "Poly2" "__mul__") fd ["self", "other"] (sp_Qmul K)
theorem fn_Qmul (N : En P K mg base) : Fn_Qmul P w K mg base := by
  have h_Pi := ok_Pi (w := w) N
  have h_Pi1 := ok_Pi1 (w := w) N
  have h_Pmul := ok_Pmul (w := w) N
  have h_Padd := ok_Padd (w := w) N
  have h_Qi := ok_Qi (w := w) N
  obtain ⟨T, S, ns, tr⟩ := N
  obtain ⟨fd, F⟩ := S.def_ 38
  refine ⟨fd, F, def_ok F sc_Qmul (fun _ => rfl) fun cdv A' outer s H E hr => ⟨_, (pss_cons (ps_setLc (i := 2) (own := [("_", 7)]) (g := gName 7) (by rfl) sc_Qmul.nd rfl rfl (sw_true rfl rfl rfl (by decide +kernel)) (pi_range1 rfl T.n_range (pa_cons (pe_op op_add (pe_callB (call_len_seqK K rfl) (by rfl) T.n_len PySem.boot_len (pa_cons (pe_fldK K rfl (pv 0) rfl) pa_nil)) (pe_callB (call_len_seqK K rfl) (by rfl) T.n_len PySem.boot_len (pa_cons (pe_fldK K rfl (pv 1) rfl) pa_nil))) pa_nil)) (blkOk_by (own := [("_", 7)]) (N := sn_Qmul) (sc := defScope s_Qmul) (by decide +kernel)) (fun _ _ _ _ _ => (pg_name (i := 7) sc_Qmul.nd rfl (by first | exact Or.inl rfl | exact Or.inr rfl))) (fun _ _ _ _ _ => pts_nil) (fun _ _ _ _ _ => (pe_makeP h_Pi1 hr (by decide) T.mk_P rfl T.g_P (pa_cons (pe_lst pa_nil) pa_nil))))
      (pss_cons (ps_for PassesOwn.never rfl (pi_enumT (by rfl) T.n_enumerate (pa_cons (pe_fld (pv 0) rfl) pa_nil)) (pg_tup rfl (pgs_cons (pg_name (i := 3) sc_Qmul.nd rfl (Or.inl rfl)) (pgs_cons (pg_name (i := 4) sc_Qmul.nd rfl (Or.inl rfl)) pgs_nil))) (pss_one (ps_for PassesOwn.never rfl (pi_enumT (by rfl) T.n_enumerate (pa_cons (pe_fld (pv 1) rfl) pa_nil)) (pg_tup rfl (pgs_cons (pg_name (i := 5) sc_Qmul.nd rfl (Or.inl rfl)) (pgs_cons (pg_name (i := 6) sc_Qmul.nd rfl (Or.inl rfl)) pgs_nil))) (pss_one (ps_asg (pe_op (op_bin h_Padd T.o_Padd.at_ T.o_Padd.fn T.f_P hr (by decide)) (pe_ix ix_list (pv 2) (pe_op op_add (pv 3) (pv 5)) (fun _ _ => rfl)) (pe_op (op_bin h_Pmul T.o_Pmul.at_ T.o_Pmul.fn T.f_P hr (by decide)) (pv 4) (pv 6))) (pg_sub (pv 2) (pe_op op_add (pv 3) (pv 5)) set_list))))))
      (pss_one (ps_ret (pe_makeP h_Qi hr (by decide) T.mk_Q rfl T.g_Q (pa_cons (pv 2) pa_nil)))))), fun i hy F0 H0 Q q => ?_⟩⟩
  obtain ⟨x, y⟩ := i
  replace hy : ∃ a b La Lb Ma Mb, ZQ a La Ma x ∧ ZQ b Lb Mb y ∧ (Ma + 1) * (a + b + La + 3) < 130000000 ∧ La + Lb ≤ 100000 ∧ Ma + Mb ≤ 100000 := hy
  change SJ F0 H0 _ (ctx [RQ K x, RQ K y] _) _
  obtain ⟨a, b, La, Lb, Ma, Mb, hx, hy, hs, hL, hM⟩ := hy
  have hx1 := hx.1
  have hy1 := hy.1
  have hs2 : (Ma + 1) * (a + b + La + 3) = Ma * (a + b + La + 3) + (a + b + La + 3) := Nat.succ_mul _ _
  have lo : ∀ n, (qMulOut x y n (List.replicate (x.length + y.length) p0)).length = x.length + y.length := fun n => by rw [qMulOut_len, List.length_replicate]
  refine q_asgO (eo_lc1 (n := ((x.length + y.length : Nat) : Int)) (Rs := (List.replicate (x.length + y.length) p0).map (RP K)) (ea1 (ev_i (ev_add (ev_lenP (ev_Qr T (ev_var rfl))) (ev_lenP (ev_Qr T (ev_var rfl)))) (by omega))) (by omega) (by rw [List.length_map, List.length_replicate]; omega) (by omega) (fun T hT => cond_mov rfl rfl hT) fun n R hR => ?_) ?_
  · rw [List.map_replicate] at hR
    rw [List.eq_of_mem_replicate (List.mem_of_getElem? hR)]
    exact ev_make (ea1 (EO.ev (eo_lst ea_nil (by simp)))) (us_Pi (false, [], 1) ⟨one_ne, by simp⟩)
  refine q_forE (ev_Qr T (ev_var rfl)) (fun n => [.fz (RQ K x), .fz (RQ K y), .own ((qMulOut x y n (List.replicate (x.length + y.length) p0)).map (RP K)), .any, .any, .any, .any, .any]) ?_ (fun Fb u n R hR => ?_) ?_
  · exact ⟨.inr rfl, .inr rfl, .inr rfl, .inl rfl, .inl rfl, .inl rfl, .inl rfl, .inl rfl, trivial⟩
  · obtain ⟨hn, rfl⟩ := map_get p0 hR
    refine sj_forE (ev_Qr T (ev_var rfl)) (fun j => [.fz (RQ K x), .fz (RQ K y), .own ((qMulIn (x.getD n p0) n y j (qMulOut x y n (List.replicate (x.length + y.length) p0))).map (RP K)), .fz (RI (n : Int)), .fz (RP K (x.getD n p0)), .any, .any, .any]) ?_ (fun Fc u2 j R hR => ?_) ?_
    · exact ⟨.inr rfl, .inr rfl, .inr rfl, .inr rfl, .inr rfl, .inl rfl, .inl rfl, .inl rfl, trivial⟩
    · obtain ⟨hj, rfl⟩ := map_get p0 hR
      have li : n + j < (qMulIn (x.getD n p0) n y j (qMulOut x y n (List.replicate (x.length + y.length) p0))).length := by rw [qMulIn_len, lo]; omega
      have z0 : ∀ j, ZP 0 (La + Lb) ((List.replicate (x.length + y.length) p0).getD j p0) := fun j => by rw [rep_getDP]; exact zp_p0.mono (Nat.zero_le _) (Nat.zero_le _)
      have z1 := zq_mulOut hx.2 hy.2 z0 n
      have z2 := zq_mulIn (i := n) (hx.get n) hy.2 z1 j (n + j)
      rw [if_neg (by omega)] at z2
      have e1 : n * (a + b + La + 3) ≤ Ma * (a + b + La + 3) := Nat.mul_le_mul_right _ (by omega)
      refine sj_setO (n := n + j) rfl (ev_Padd (ev_ixO rfl (ev_i (ev_add (ev_var rfl) (ev_var rfl)) (by omega)) (get_map p0 li)) (ev_Pmul (ev_var rfl) (ev_var rfl) (hx.get n) (hy.get j) (by omega) hL) z2 (zp_mul (hx.get n) (hy.get j)) (by omega) hL hL) (ev_i (ev_add (ev_var rfl) (ev_var rfl)) (by omega)) (by rw [List.length_map]; exact li) (nx_sub ?_)
      refine ⟨.inr rfl, .inr rfl, .inr ?_, .inr rfl, .inr rfl, .inl rfl, .inl rfl, .inl rfl, trivial⟩
      rw [map_set']
      rfl
    · rw [List.length_map]
      exact nx_sub ⟨.inr rfl, .inr rfl, .inr rfl, .inl rfl, .inl rfl, .inl rfl, .inl rfl, .inl rfl, trivial⟩
  · rw [List.length_map]
    refine sj_freeze (i := 2) rfl ?_
    refine sj_ret (ev_make (ea1 (ev_var rfl)) (us_Qi _ ?_)) q
    rw [lo]
    omega
abbrev Pr_Qmul (P : Program) (w : World) (K : Frag) (mg : Str → Option Value) (base : Heap) : Prop := Pr P w K mg base 45 (mA K "Poly2" "__mul__") ["self", "other"] [] (sp_Qmul K)
theorem ok_Qmul (N : En P K mg base) : Pr_Qmul P w K mg base := by
  obtain ⟨fd, F, h⟩ := fn_Qmul (w := w) N
  exact pr_mk F h (F.bindsN fun _ _ _ _ _ _ us hl => match us, hl with | [_, _], _ => rfl)
abbrev sn_Qmoved : List Str := ["self", "by_n", "by_k", "rows", "step", "i", "j", "row"]
theorem sc_Qmoved : FnScope sn_Qmoved ["self", "by_n", "by_k"] (defScope s_Qmoved) := ⟨rfl, rfl, rfl, by decide +kernel, rfl, by decide +kernel, by decide +kernel⟩
abbrev sp_Qmoved (K : Frag) : Sp := SpG (ι := Q2 × Int × Int) (fun p => ∃ a b L M, WQ a L M p.1 ∧ lg p.2.1 ≤ b ∧ lg p.2.2 ≤ b ∧ 2 * (a + L * (L * (b + 2)) + M * (M * (b + 2))) + b + b + 2 < 130000000 ∧ L ≤ 100000 ∧ M ≤ 100000) (fun p => [RQ K p.1, RI p.2.1, RI p.2.2]) (fun p => RQ K (qMoved p.1 p.2.1 p.2.2))
theorem us_Qmoved {K : Frag} (i : Q2 × Int × Int) (h : (fun p => ∃ a b L M, WQ a L M p.1 ∧ lg p.2.1 ≤ b ∧ lg p.2.2 ≤ b ∧ 2 * (a + L * (L * (b + 2)) + M * (M * (b + 2))) + b + b + 2 < 130000000 ∧ L ≤ 100000 ∧ M ≤ 100000) i) : ∀ vs H Q E, SpF ((fun p => [RQ K p.1, RI p.2.1, RI p.2.2]) i) ((fun p => RQ K (qMoved p.1 p.2.1 p.2.2)) i) vs H Q E → sp_Qmoved K vs H Q E := fun _ _ _ _ q => ⟨i, h, q⟩
abbrev Fn_Qmoved (P : Program) (w : World) (K : Frag) (mg : Str → Option Value) (base : Heap) : Prop := ∃ fd, DefF K "moved" "Poly2.moved" s_Qmoved [] [] (mA K "Poly2" "moved") fd ∧ FnOk P w K mg base CX0 45 (mA K "Poly2" "moved") fd ["self", "by_n", "by_k"] (sp_Qmoved K)
theorem fn_Qmoved (N : En P K mg base) : Fn_Qmoved P w K mg base := by
  have h_Pshifted := ok_Pshifted (w := w) N
  have h_Fi := ok_Fi (w := w) N
  have h_Fi1 := ok_Fi1 (w := w) N
  have h_Pscaled := ok_Pscaled (w := w) N
  have h_Padd := ok_Padd (w := w) N
  have h_Qi := ok_Qi (w := w) N
  obtain ⟨T, S, ns, tr⟩ := N
  obtain ⟨fd, F⟩ := S.def_ 39
  refine ⟨fd, F, def_ok F sc_Qmoved (fun _ => rfl) fun cdv A' outer s H E hr => ⟨_, (pss_cons (ps_setLc (i := 3) (own := [("row", 7)]) (g := gName 7) (by rfl) sc_Qmoved.nd rfl rfl (sw_true rfl rfl rfl (by decide +kernel)) (pi_tup (pe_fldK K rfl (pv 0) rfl)) (blkOk_by (own := [("row", 7)]) (N := sn_Qmoved) (sc := defScope s_Qmoved) (by decide +kernel)) (fun _ _ _ _ _ => (pg_name (i := 7) sc_Qmoved.nd rfl (by first | exact Or.inl rfl | exact Or.inr rfl))) (fun _ _ _ _ _ => pts_nil) (fun _ _ _ _ _ => (pe_methP h_Pshifted hr (by decide) T.c_P T.m_Pshifted (pv 7) (pa_cons (pv 1) pa_nil))))
      (pss_cons (ps_set (i := 4) sc_Qmoved.nd rfl (Or.inl rfl) (pe_makeP h_Fi1 hr (by decide) T.mk_F rfl T.g_F (pa_cons (pv 2) pa_nil)))
      (pss_cons (ps_for PassesOwn.never rfl (pi_range1 rfl T.n_range (pa_cons (pe_op op_sub (pe_callB call_len_seq (by rfl) T.n_len PySem.boot_len (pa_cons (pv 3) pa_nil)) pe_int) pa_nil)) (pg_name (i := 5) sc_Qmoved.nd rfl (Or.inl rfl)) (pss_one (ps_for PassesOwn.never rfl (pi_range3 (by rfl) T.n_range (pa_cons (pe_op op_sub (pe_callB call_len_seq (by rfl) T.n_len PySem.boot_len (pa_cons (pv 3) pa_nil)) pe_int) (pa_cons (pe_op op_sub (pv 5) pe_int) (pa_cons (pe_un un_neg pe_int) pa_nil)))) (pg_name (i := 6) sc_Qmoved.nd rfl (Or.inl rfl)) (pss_one (ps_asg (pe_op (op_bin h_Padd T.o_Padd.at_ T.o_Padd.fn T.f_P hr (by decide)) (pe_ix ix_list (pv 3) (pv 6) (fun _ _ => rfl)) (pe_methP h_Pscaled hr (by decide) T.c_P T.m_Pscaled (pe_ix ix_list (pv 3) (pe_op op_add (pv 6) pe_int) (fun _ _ => rfl)) (pa_cons (pv 4) pa_nil))) (pg_sub (pv 3) (pv 6) set_list))))))
      (pss_one (ps_ret (pe_makeP h_Qi hr (by decide) T.mk_Q rfl T.g_Q (pa_cons (pv 3) pa_nil))))))), fun i hy F0 H0 Q q => ?_⟩⟩
  obtain ⟨x, s, r⟩ := i
  replace hy : ∃ a b L M, WQ a L M x ∧ lg s ≤ b ∧ lg r ≤ b ∧ 2 * (a + L * (L * (b + 2)) + M * (M * (b + 2))) + b + b + 2 < 130000000 ∧ L ≤ 100000 ∧ M ≤ 100000 := hy
  change SJ F0 H0 _ (ctx [RQ K x, RI s, RI r] _) _
  obtain ⟨a, b, L, M, hx, hs, hr2, hsz, hL, hM⟩ := hy
  have hx1 := hx.1
  have hst : SzF b (mkF r 1) := sz_mkF one_ne hr2 (by rw [lg_one]; exact Nat.zero_le _)
  refine q_asgO (eo_lcT (Rs := (x.map fun r => pShift r s).map (RP K)) (ev_Qr T (ev_var rfl)) (by rw [List.length_map, List.length_map, List.length_map]) (by rw [List.length_map, List.length_map]; omega) (fun T hT => cond_mov rfl rfl hT) fun n S R hS hR => ?_) ?_
  · obtain ⟨h1, rfl⟩ := map_get p0 hS
    rw [List.map_map] at hR
    obtain ⟨_, rfl⟩ := map_get (f := RP K ∘ fun r => pShift r s) p0 hR
    have w := wp_getD hx.2 n
    have wl := w.2.2
    refine ev_meth (ev_var rfl) (rn_no (by decide)) (ea1 (ev_var rfl)) (us_Pshifted (x.getD n p0, s) ⟨a, b, w.z.1, hs, ?_, Nat.le_trans wl hL⟩)
    have h2 : (x.getD n p0).co.length * ((x.getD n p0).co.length * (b + 2)) ≤ L * (L * (b + 2)) := Nat.mul_le_mul wl (Nat.mul_le_mul_right _ wl)
    show a + (x.getD n p0).co.length * ((x.getD n p0).co.length * (b + 2)) + b < 130000000
    omega
  refine q_asg (ev_make (ea1 (ev_var rfl)) (us_Fi (r, 1) one_ne)) ?_
  refine q_for1 (n := (x.length : Int) - 1) (ea1 (ev_sub (ev_i (ev_lenO rfl) (by rw [List.length_map, List.length_map])) ev_c)) (by omega) (by omega) (fun n => [.fz (RQ K x), .fz (RI s), .fz (RI r), .own ((mvOut (mkF r 1) x.length n (x.map fun r => pShift r s)).map (RP K)), .fz (RF K (mkF r 1)), .any, .any, .any]) ⟨.inr rfl, .inr rfl, .inr rfl, .inr rfl, .inr rfl, .inl rfl, .inl rfl, .inl rfl, trivial⟩ (fun n hn => ?_) ?_
  · have hn' : n < x.length - 1 := by omega
    refine sj_for3 (hi := (x.length : Int) - 2) (lo := (n : Int) - 1) (ea_cons (ev_i (ev_sub (ev_i (ev_lenO rfl) (by rw [List.length_map, mvOut_len, List.length_map])) ev_c) (by omega)) (ea2 (ev_sub (ev_var rfl) ev_c) (ev_neg ev_c))) (by omega) (fun j => [.fz (RQ K x), .fz (RI s), .fz (RI r), .own ((mvIn (mkF r 1) x.length j (mvOut (mkF r 1) x.length n (x.map fun r => pShift r s))).map (RP K)), .fz (RF K (mkF r 1)), .fz (RI (n : Int)), .any, .any]) ⟨.inr rfl, .inr rfl, .inr rfl, .inr rfl, .inr rfl, .inr rfl, .inl rfl, .inl rfl, trivial⟩ (fun j hj => ?_) ?_
    · have hj' : j < x.length - 1 - n := by omega
      have ll : (mvIn (mkF r 1) x.length j (mvOut (mkF r 1) x.length n (x.map fun r => pShift r s))).length = x.length := by rw [mvIn_len, mvOut_len, List.length_map]
      have e1 : (x.length : Int) - 2 - (j : Int) = ((x.length - 2 - j : Nat) : Int) := by omega
      have w : ∀ t, WP (a + L * (L * (b + 2)) + M * (M * (b + 2))) L ((mvIn (mkF r 1) x.length j (mvOut (mkF r 1) x.length n (x.map fun r => pShift r s))).getD t p0) := fun t => by
        refine (mvIn_w (l := mvOut (mkF r 1) x.length n (x.map fun r => pShift r s)) x.length hr2 (mvOut_w x.length hr2 (mvStart_w hx hs) n) j t).mono ?_ (Nat.le_refl _)
        have h1 : j * (b + 2) ≤ x.length * (b + 2) := Nat.mul_le_mul_right _ (by omega)
        have h2 : (n + 1) * (x.length * (b + 2)) ≤ M * (M * (b + 2)) := Nat.mul_le_mul (by omega) (Nat.mul_le_mul_right _ hx1)
        have h3 : (n + 1) * (x.length * (b + 2)) = n * (x.length * (b + 2)) + x.length * (b + 2) := Nat.succ_mul _ _
        omega
      have w2 := (wp_scaled (w (x.length - 2 - j + 1)) hr2).z
      have hq := (wq_moved hx hs hr2)
      rw [e1]
      -- whole: the sum needs no more than its numbers
      have wa := w (x.length - 2 - j)
      refine sj_setO (n := x.length - 2 - j) rfl (ev_Padd (ev_ixO rfl (ev_var rfl) (get_map p0 (by omega))) (ev_Pscaled (ev_ixO rfl (ev_i (ev_add (ev_var rfl) ev_c) (by omega)) (get_map (i := x.length - 2 - j + 1) p0 (by omega))) (ev_var rfl) (w _).z hst (by omega) hL) wa.z w2 (by omega) hL hL) (ev_var rfl) (by rw [List.length_map]; omega) (nx_sub ?_)
      refine ⟨.inr rfl, .inr rfl, .inr rfl, .inr ?_, .inr rfl, .inr rfl, .inl rfl, .inl rfl, trivial⟩
      rw [map_set']
      rfl
    · have e1 : ((x.length : Int) - 2 - ((n : Int) - 1)).toNat = x.length - 1 - n := by omega
      rw [e1]
      exact nx_sub ⟨.inr rfl, .inr rfl, .inr rfl, .inr rfl, .inr rfl, .inl rfl, .inl rfl, .inl rfl, trivial⟩
  · rw [show ((x.length : Int) - 1).toNat = x.length - 1 by omega]
    refine sj_freeze (i := 3) rfl ?_
    exact sj_ret (ev_make (ea1 (ev_var rfl)) (us_Qi _ (by rw [mvOut_len, List.length_map]; omega))) q
abbrev Pr_Qmoved (P : Program) (w : World) (K : Frag) (mg : Str → Option Value) (base : Heap) : Prop := Pr P w K mg base 45 (mA K "Poly2" "moved") ["self", "by_n", "by_k"] [] (sp_Qmoved K)
theorem ok_Qmoved (N : En P K mg base) : Pr_Qmoved P w K mg base := by
  obtain ⟨fd, F, h⟩ := fn_Qmoved (w := w) N
  exact pr_mk F h (F.bindsN fun _ _ _ _ _ _ us hl => match us, hl with | [_, _, _], _ => rfl)
abbrev sn_Qpow : List Str := ["self", "exponent", "result", "_"]
theorem sc_Qpow : FnScope sn_Qpow ["self", "exponent"] (defScope s_Qpow) := ⟨rfl, rfl, rfl, by decide +kernel, rfl, by decide +kernel, by decide +kernel⟩
abbrev sp_Qpow (K : Frag) : Sp := SpG (ι := Q2 × Nat) (fun p => p.2 ≤ 100000 ∧ ∃ a b La Lb Ma Mb, (∀ i, i ≤ p.2 → ZQ a La Ma (qPow p.1 i)) ∧ ZQ b Lb Mb p.1 ∧ (Ma + 1) * (a + b + La + 3) < 130000000 ∧ La + Lb ≤ 100000 ∧ Ma + Mb ≤ 100000) (fun p => [RQ K p.1, RI (p.2 : Int)]) (fun p => RQ K (qPow p.1 p.2))
theorem us_Qpow {K : Frag} (i : Q2 × Nat) (h : (fun p => p.2 ≤ 100000 ∧ ∃ a b La Lb Ma Mb, (∀ i, i ≤ p.2 → ZQ a La Ma (qPow p.1 i)) ∧ ZQ b Lb Mb p.1 ∧ (Ma + 1) * (a + b + La + 3) < 130000000 ∧ La + Lb ≤ 100000 ∧ Ma + Mb ≤ 100000) i) : ∀ vs H Q E, SpF ((fun p => [RQ K p.1, RI (p.2 : Int)]) i) ((fun p => RQ K (qPow p.1 p.2)) i) vs H Q E → sp_Qpow K vs H Q E := fun _ _ _ _ q => ⟨i, h, q⟩
abbrev Fn_Qpow (P : Program) (w : World) (K : Frag) (mg : Str → Option Value) (base : Heap) : Prop := ∃ fd, DefF K "power" "Poly2.power" s_Qpow [] [] (mA K "Poly2" "power") fd ∧ FnOk P w K mg base CX0 46 (mA K "Poly2" "power") fd ["self", "exponent"] (sp_Qpow K)
theorem fn_Qpow (N : En P K mg base) : Fn_Qpow P w K mg base := by
  have h_Qi := ok_Qi (w := w) N
  have h_Pi := ok_Pi (w := w) N
  have h_Pi1 := ok_Pi1 (w := w) N
  have h_Qmul := ok_Qmul (w := w) N
  obtain ⟨T, S, ns, tr⟩ := N
  obtain ⟨fd, F⟩ := S.def_ 40
  refine ⟨fd, F, def_ok F sc_Qpow (fun _ => rfl) fun cdv A' outer s H E hr => ⟨_, (pss_cons (ps_set (i := 2) sc_Qpow.nd rfl (Or.inl rfl) (pe_makeP h_Qi hr (by decide) T.mk_Q rfl T.g_Q (pa_cons (pe_lst (pa_cons (pe_makeP h_Pi1 hr (by decide) T.mk_P rfl T.g_P (pa_cons (pe_lst (pa_cons pe_int pa_nil)) pa_nil)) pa_nil)) pa_nil)))
      (pss_cons (ps_for PassesOwn.never rfl (pi_range1 rfl T.n_range (pa_cons (pv 1) pa_nil)) (pg_name (i := 3) sc_Qpow.nd rfl (Or.inl rfl)) (pss_one (ps_set (i := 2) sc_Qpow.nd rfl (Or.inl rfl) (pe_op (op_bin h_Qmul T.o_Qmul.at_ T.o_Qmul.fn T.f_Q hr (by decide)) (pv 2) (pv 0)))))
      (pss_one (ps_ret (pv 2))))), fun i hy F0 H0 Q q => ?_⟩⟩
  obtain ⟨x, n⟩ := i
  replace hy : n ≤ 100000 ∧ ∃ a b La Lb Ma Mb, (∀ i, i ≤ n → ZQ a La Ma (qPow x i)) ∧ ZQ b Lb Mb x ∧ (Ma + 1) * (a + b + La + 3) < 130000000 ∧ La + Lb ≤ 100000 ∧ Ma + Mb ≤ 100000 := hy
  change SJ F0 H0 _ (ctx [RQ K x, RI (n : Int)] _) _
  obtain ⟨hn, a, b, La, Lb, Ma, Mb, h1, hx, hs, hL, hM⟩ := hy
  refine q_asg (ev_make (ea1 (EO.ev (eo_lst (ea1 (ev_make (ea1 (EO.ev (eo_lst (ea1 ev_c) (by simp)))) (us_Pi (false, [1], 1) ⟨one_ne, by simp⟩))) (by simp)))) (us_Qi [p1] (by simp))) ?_
  refine q_for1 (n := (n : Int)) (ea1 (ev_var rfl)) (by omega) (by omega) (fun i => [.fz (RQ K x), .fz (RI (n : Int)), .fz (RQ K (qPow x i)), .any]) ⟨.inr rfl, .inr rfl, .inr rfl, .inl rfl, trivial⟩ (fun i hi => ?_) ?_
  · refine sj_asg (ev_own2 (ev_var rfl) (ev_var rfl) rn_is rn_is (us_Qmul (qPow x i, x) ⟨a, b, La, Lb, Ma, Mb, h1 i (by omega), hx, hs, hL, hM⟩)) (nx_sub ⟨.inr rfl, .inr rfl, .inr rfl, .inl rfl, trivial⟩)
  · rw [Int.toNat_natCast]
    exact sj_ret (ev_var rfl) q
abbrev Pr_Qpow (P : Program) (w : World) (K : Frag) (mg : Str → Option Value) (base : Heap) : Prop := Pr P w K mg base 46 (mA K "Poly2" "power") ["self", "exponent"] [] (sp_Qpow K)
theorem ok_Qpow (N : En P K mg base) : Pr_Qpow P w K mg base := by
  obtain ⟨fd, F, h⟩ := fn_Qpow (w := w) N
  exact pr_mk F h (F.bindsN fun _ _ _ _ _ _ us hl => match us, hl with | [_, _], _ => rfl)
abbrev sn_prod2 : List Str := ["factors", "result", "factor"]
theorem sc_prod2 : FnScope sn_prod2 ["factors"] (defScope s_prod2) := ⟨rfl, rfl, rfl, by decide +kernel, rfl, by decide +kernel, by decide +kernel⟩
abbrev sp_prod2 (K : Frag) : Sp := SpG (ι := List Q2) (fun l => ∃ a b La Lb Ma Mb, (∀ i, i ≤ l.length → ZQ a La Ma (qProdN l i)) ∧ (∀ i, ZQ b Lb Mb (l.getD i [])) ∧ (Ma + 1) * (a + b + La + 3) < 130000000 ∧ La + Lb ≤ 100000 ∧ Ma + Mb ≤ 100000) (fun l => [RL (l.map (RQ K))]) (fun l => RQ K (qProd l))
theorem us_prod2 {K : Frag} (i : List Q2) (h : (fun l => ∃ a b La Lb Ma Mb, (∀ i, i ≤ l.length → ZQ a La Ma (qProdN l i)) ∧ (∀ i, ZQ b Lb Mb (l.getD i [])) ∧ (Ma + 1) * (a + b + La + 3) < 130000000 ∧ La + Lb ≤ 100000 ∧ Ma + Mb ≤ 100000) i) : ∀ vs H Q E, SpF ((fun l => [RL (l.map (RQ K))]) i) ((fun l => RQ K (qProd l)) i) vs H Q E → sp_prod2 K vs H Q E := fun _ _ _ _ q => ⟨i, h, q⟩
abbrev Fn_prod2 (P : Program) (w : World) (K : Frag) (mg : Str → Option Value) (base : Heap) : Prop := ∃ fd, DefF K "product_of2" "product_of2" s_prod2 [] [] (ga K "product_of2") fd ∧ FnOk P w K mg base CX0 46 (ga K "product_of2") fd ["factors"] (sp_prod2 K)
theorem fn_prod2 (N : En P K mg base) : Fn_prod2 P w K mg base := by
  have h_Qi := ok_Qi (w := w) N
  have h_Pi := ok_Pi (w := w) N
  have h_Pi1 := ok_Pi1 (w := w) N
  have h_Qmul := ok_Qmul (w := w) N
  obtain ⟨T, S, ns, tr⟩ := N
  obtain ⟨fd, F⟩ := S.def_ 41
  refine ⟨fd, F, def_ok F sc_prod2 (fun _ => rfl) fun cdv A' outer s H E hr => ⟨_, (pss_cons (ps_set (i := 1) sc_prod2.nd rfl (Or.inl rfl) (pe_makeP h_Qi hr (by decide) T.mk_Q rfl T.g_Q (pa_cons (pe_lst (pa_cons (pe_makeP h_Pi1 hr (by decide) T.mk_P rfl T.g_P (pa_cons (pe_lst (pa_cons pe_int pa_nil)) pa_nil)) pa_nil)) pa_nil)))
      (pss_cons (ps_for PassesOwn.never rfl (pi_list (pv 0)) (pg_name (i := 2) sc_prod2.nd rfl (Or.inl rfl)) (pss_one (ps_set (i := 1) sc_prod2.nd rfl (Or.inl rfl) (pe_op (op_bin h_Qmul T.o_Qmul.at_ T.o_Qmul.fn T.f_Q hr (by decide)) (pv 1) (pv 2)))))
      (pss_one (ps_ret (pv 1))))), fun i hy F0 H0 Q q => ?_⟩⟩
  obtain ⟨l, rfl⟩ : ∃ zz, zz = i := ⟨i, rfl⟩
  replace hy : ∃ a b La Lb Ma Mb, (∀ i, i ≤ l.length → ZQ a La Ma (qProdN l i)) ∧ (∀ i, ZQ b Lb Mb (l.getD i [])) ∧ (Ma + 1) * (a + b + La + 3) < 130000000 ∧ La + Lb ≤ 100000 ∧ Ma + Mb ≤ 100000 := hy
  change SJ F0 H0 _ (ctx [RL (l.map (RQ K))] _) _
  obtain ⟨a, b, La, Lb, Ma, Mb, h1, hx, hs, hL, hM⟩ := hy
  refine q_asg (ev_make (ea1 (EO.ev (eo_lst (ea1 (ev_make (ea1 (EO.ev (eo_lst (ea1 ev_c) (by simp)))) (us_Pi (false, [1], 1) ⟨one_ne, by simp⟩))) (by simp)))) (us_Qi [p1] (by simp))) ?_
  refine q_forL (ev_var rfl) (fun i => [.fz (RL (l.map (RQ K))), .fz (RQ K (qProdN l i)), .any]) ⟨.inr rfl, .inr rfl, .inl rfl, trivial⟩ (fun Fb u i R hR => ?_) ?_
  · obtain ⟨hi, rfl⟩ := map_get [] hR
    have z := h1 i (Nat.le_of_lt hi)
    exact sj_asg (ev_own2 (ev_var rfl) (ev_var rfl) rn_is rn_is (us_Qmul (_, _) ⟨a, b, La, Lb, Ma, Mb, z, hx i, hs, hL, hM⟩)) (nx_sub ⟨.inr rfl, .inr rfl, .inl rfl, trivial⟩)
  · rw [List.length_map]
    exact sj_ret (ev_var rfl) q
abbrev Pr_prod2 (P : Program) (w : World) (K : Frag) (mg : Str → Option Value) (base : Heap) : Prop := Pr P w K mg base 46 (ga K "product_of2") ["factors"] [] (sp_prod2 K)
theorem ok_prod2 (N : En P K mg base) : Pr_prod2 P w K mg base := by
  obtain ⟨fd, F, h⟩ := fn_prod2 (w := w) N
  exact pr_mk F h (F.bindsN fun _ _ _ _ _ _ us hl => match us, hl with | [_], _ => rfl)
end
end G
end
section
set_option maxRecDepth 100000
set_option maxHeartbeats 4000000
namespace G
open PySem PySem.Spec PyProof.Rows L2 He
open _root_.RT (ItvT iRevA pi_revA)
section
variable {P : Program} {w : World} {K : Frag} {mg : Str → Option Value} {base : Heap}
theorem range_down {n t : Nat} (h : t < n) : ((n : Int) - 1) - (t : Int) = ((n - 1 - t : Nat) : Int) := by omega
theorem div_eq (p q : Po) : divide p q = (mkP ((dloop p.co q.co (dlen p.co q.co)).quo.map fun x => x * q.den) ((dloop p.co q.co (dlen p.co q.co)).scale * p.den), mkP (dloop p.co q.co (dlen p.co q.co)).rest ((dloop p.co q.co (dlen p.co q.co)).scale * p.den)) := rfl
abbrev sn_divide : List Str := ["p", "q", "size", "lead", "rest", "quotient", "scale", "place", "top", "i", "den", "_", "number"]
theorem sc_divide : FnScope sn_divide ["p", "q"] (defScope s_divide) := ⟨rfl, rfl, rfl, by decide +kernel, rfl, by decide +kernel, by decide +kernel⟩
abbrev sp_divide (K : Frag) : Sp := SpG (ι := Po × Po) (fun p => DOk p.1 p.2) (fun p => [RP K p.1, RP K p.2]) (fun p => RT [RP K (divide p.1 p.2).1, RP K (divide p.1 p.2).2])
theorem us_divide {K : Frag} (i : Po × Po) (h : (fun p => DOk p.1 p.2) i) : ∀ vs H Q E, SpF ((fun p => [RP K p.1, RP K p.2]) i) ((fun p => RT [RP K (divide p.1 p.2).1, RP K (divide p.1 p.2).2]) i) vs H Q E → sp_divide K vs H Q E := fun _ _ _ _ q => ⟨i, h, q⟩
abbrev Fn_divide (P : Program) (w : World) (K : Frag) (mg : Str → Option Value) (base : Heap) : Prop := ∃ fd, DefF K "divide" "divide" s_divide [] [] (ga K "divide") fd ∧ FnOk P w K mg base CX0 44 (ga K "divide") fd ["p", "q"] (sp_divide K)
theorem fn_divide (N : En P K mg base) : Fn_divide P w K mg base := by
  have h_Pz := ok_Pz (w := w) N
  have h_Pi := ok_Pi (w := w) N
  obtain ⟨T, S, ns, tr⟩ := N
  obtain ⟨fd, F⟩ := S.def_ 42
  refine ⟨fd, F, def_ok F sc_divide (fun _ => rfl) fun cdv A' outer s H E hr => ⟨_, (pss_cons (ps_if (pt_val (pe_propP h_Pz hr (by decide) T.c_P T.p_Pz (pv 1))) (pss_one ps_never) pss_nil)
      (pss_cons (ps_set (i := 2) sc_divide.nd rfl (Or.inl rfl) (pe_callB call_len_seq (by rfl) T.n_len PySem.boot_len (pa_cons (pe_fld (pv 1) rfl) pa_nil)))
      (pss_cons (ps_set (i := 3) sc_divide.nd rfl (Or.inr rfl) (pe_ix ix_tup (pe_fld (pv 1) rfl) (pe_op op_sub (pv 2) pe_int) (fun _ _ => rfl)))
      (pss_cons (ps_set (i := 4) sc_divide.nd rfl (Or.inl rfl) (pe_callTy call_list_of (by rfl) T.n_list bt_list (pa_cons (pe_fld (pv 0) rfl) pa_nil)))
      (pss_cons (ps_setLc (i := 5) (own := [("_", 11)]) (g := gName 11) (by rfl) sc_divide.nd rfl rfl (sw_true rfl rfl rfl (by decide +kernel)) (pi_range1 rfl T.n_range (pa_cons (pe_op op_add (pe_op op_sub (pe_callB (call_len_seqK K rfl) (by rfl) T.n_len PySem.boot_len (pa_cons (pv 4) pa_nil)) (pv 2)) pe_int) pa_nil)) (blkOk_by (own := [("_", 11)]) (N := sn_divide) (sc := defScope s_divide) (by decide +kernel)) (fun _ _ _ _ _ => (pg_name (i := 11) sc_divide.nd rfl (by first | exact Or.inl rfl | exact Or.inr rfl))) (fun _ _ _ _ _ => pts_nil) (fun _ _ _ _ _ => pe_int))
      (pss_cons (ps_set (i := 6) sc_divide.nd rfl (Or.inl rfl) pe_int)
      (pss_cons (ps_for PassesOwn.never rfl (pi_range3 (by rfl) T.n_range (pa_cons (pe_op op_sub (pe_callB call_len_seq (by rfl) T.n_len PySem.boot_len (pa_cons (pv 5) pa_nil)) pe_int) (pa_cons (pe_un un_neg pe_int) (pa_cons (pe_un un_neg pe_int) pa_nil)))) (pg_name (i := 7) sc_divide.nd rfl (Or.inl rfl)) (pss_cons (ps_set (i := 8) sc_divide.nd rfl (Or.inl rfl) (pe_ix ix_list (pv 4) (pe_op op_sub (pe_op op_add (pv 7) (pv 2)) pe_int) (fun _ _ => rfl)))
      (pss_cons (ps_setLc (i := 4) (own := [("number", 12)]) (g := gName 12) (by rfl) sc_divide.nd rfl rfl (sw_true rfl rfl rfl (by decide +kernel)) (pi_list (pv 4)) (blkOk_by (own := [("number", 12)]) (N := sn_divide) (sc := defScope s_divide) (by decide +kernel)) (fun _ _ _ _ _ => (pg_name (i := 12) sc_divide.nd rfl (by first | exact Or.inl rfl | exact Or.inr rfl))) (fun _ _ _ _ _ => pts_nil) (fun _ _ _ _ _ => (pe_op op_mulB (pv 3) (pv 12))))
      (pss_cons (ps_setLc (i := 5) (own := [("number", 12)]) (g := gName 12) (by rfl) sc_divide.nd rfl rfl (sw_true rfl rfl rfl (by decide +kernel)) (pi_list (pv 5)) (blkOk_by (own := [("number", 12)]) (N := sn_divide) (sc := defScope s_divide) (by decide +kernel)) (fun _ _ _ _ _ => (pg_name (i := 12) sc_divide.nd rfl (by first | exact Or.inl rfl | exact Or.inr rfl))) (fun _ _ _ _ _ => pts_nil) (fun _ _ _ _ _ => (pe_op op_mulB (pv 3) (pv 12))))
      (pss_cons (ps_for PassesOwn.never rfl (pi_range1 rfl T.n_range (pa_cons (pv 2) pa_nil)) (pg_name (i := 9) sc_divide.nd rfl (Or.inl rfl)) (pss_one (ps_asg (pe_op op_sub (pe_ix ix_list (pv 4) (pe_op op_add (pv 7) (pv 9)) (fun _ _ => rfl)) (pe_op op_mulB (pv 8) (pe_ix ix_tup (pe_fld (pv 1) rfl) (pv 9) (fun _ _ => rfl)))) (pg_sub (pv 4) (pe_op op_add (pv 7) (pv 9)) set_list))))
      (pss_cons (ps_asg (pe_op op_add (pe_ix ix_list (pv 5) (pv 7) (fun _ _ => rfl)) (pv 8)) (pg_sub (pv 5) (pv 7) set_list))
      (pss_one (ps_set (i := 6) sc_divide.nd rfl (Or.inl rfl) (pe_op op_mulB (pv 6) (pv 3))))))))))
      (pss_cons (ps_set (i := 10) sc_divide.nd rfl (Or.inl rfl) (pe_op op_mulB (pv 6) (pe_fld (pv 0) rfl)))
      (pss_one (ps_ret (pe_tup (pa_cons (pe_makeP h_Pi hr (by decide) T.mk_P rfl T.g_P (pa_cons (pe_lc (own := [("number", 12)]) (g := gName 12) (by rfl) sc_divide.nd (pi_list (pv 5)) (blkOk_by (own := [("number", 12)]) (N := sn_divide) (sc := defScope s_divide) (by decide +kernel)) (fun _ _ _ _ _ => (pg_name (i := 12) sc_divide.nd rfl (by first | exact Or.inl rfl | exact Or.inr rfl))) (fun _ _ _ _ _ => pts_nil) (fun _ _ _ _ _ => (pe_op op_mulB (pv 12) (pe_fldK K rfl (pv 1) rfl)))) (pa_cons (pv 10) pa_nil))) (pa_cons (pe_makeP h_Pi hr (by decide) T.mk_P rfl T.g_P (pa_cons (pv 4) (pa_cons (pv 10) pa_nil))) pa_nil))))))))))))), fun i hy F0 H0 Q q => ?_⟩⟩
  obtain ⟨x, y⟩ := i
  replace hy : DOk x y := hy
  change SJ F0 H0 _ (ctx [RP K x, RP K y] _) _
  obtain ⟨a, da, b, db, hx, hy, hz, hs, hl1, hl2⟩ := hy
  have hz0 := hz.1
  have hn0 : ∀ n, n ≤ dlen x.co y.co → n * (b + 2) ≤ dlen x.co y.co * (b + 2) := fun n h => Nat.mul_le_mul_right _ h
  have hlead : lg (y.co.getD (y.co.length - 1) 0) ≤ b := lg_getD hy.2.2 _
  have hdl : dlen x.co y.co ≤ 90001 := by unfold dlen; omega
  refine q_skip (et_is (et_B (ev_Pz (ev_var rfl))) (by unfold pZ; exact decide_eq_false hz0)) ?_
  refine q_asg (ev_len (ev_Pc T (ev_var rfl))) ?_
  refine q_asg (ev_ixT (n := y.co.length - 1) (ev_Pc T (ev_var rfl)) (ev_i (ev_sub (ev_var rfl) ev_c) (by omega)) (get_map 0 (by omega))) ?_
  refine q_asgO (eo_listT (ev_Pc T (ev_var rfl))) ?_
  refine q_asgO (eo_lc1 (n := (x.co.length : Int) - (y.co.length : Int) + 1) (Rs := (List.replicate (dlen x.co y.co) (0 : Int)).map RI) (ea1 (ev_add (ev_sub (ev_i (ev_lenO rfl) (by rw [List.length_map])) (ev_var rfl)) ev_c)) (by omega) (by rw [List.length_map, List.length_replicate]; unfold dlen; omega) (by omega) (fun T hT => cond_mov rfl rfl hT) fun n R hR => ?_) ?_
  · rw [List.map_replicate] at hR
    rw [List.eq_of_mem_replicate (List.mem_of_getElem? hR)]
    exact ev_c
  refine q_asg ev_c ?_
  refine q_for3 (hi := (dlen x.co y.co : Int) - 1) (lo := -1) (ea_cons (ev_sub (ev_i (ev_lenO rfl) (by rw [List.length_map, List.length_replicate])) ev_c) (ea2 (ev_neg ev_c) (ev_neg ev_c))) (by omega) (fun t => [.fz (RP K x), .fz (RP K y), .fz (RI (y.co.length : Nat)), .fz (RI (y.co.getD (y.co.length - 1) 0)), .own ((dloop x.co y.co t).rest.map RI), .own ((dloop x.co y.co t).quo.map RI), .fz (RI (dloop x.co y.co t).scale), .any, .any, .any, .any, .any, .any]) ⟨.inr rfl, .inr rfl, .inr rfl, .inr rfl, .inr rfl, .inr rfl, .inr rfl, .inl rfl, .inl rfl, .inl rfl, .inl rfl, .inl rfl, .inl rfl, trivial⟩ (fun t ht => ?_) ?_
  · have ht' : t < dlen x.co y.co := by omega
    obtain ⟨ll1, ll2⟩ := dloop_len x.co y.co t
    obtain ⟨g1, g2, g3⟩ := dloop_lg hx.2.2 hy.2.2 t
    have hn1 := hn0 (t + 1) ht'
    have hn2 : (t + 1) * (b + 2) = t * (b + 2) + (b + 2) := Nat.succ_mul _ _
    have hpl : dlen x.co y.co - 1 - t + y.co.length ≤ x.co.length := by unfold dlen at ht' ⊢; omega
    have hmr : (dloop x.co y.co t).rest.map (fun c => RI (y.co.getD (y.co.length - 1) 0 * c)) = ((dloop x.co y.co t).rest.map fun c => y.co.getD (y.co.length - 1) 0 * c).map RI := by rw [List.map_map]; rfl
    rw [range_down ht']
    refine q_asg (ev_ixO (n := dlen x.co y.co - 1 - t + y.co.length - 1) rfl (ev_i (ev_sub (ev_add (ev_var rfl) (ev_var rfl)) ev_c) (by omega)) (get_map 0 (by omega))) ?_
    refine sj_freeze (i := 4) rfl ?_
    refine q_asgO (eo_lcL (Rs := ((dloop x.co y.co t).rest.map fun c => y.co.getD (y.co.length - 1) 0 * c).map RI) (ev_var rfl) (by rw [List.length_map, List.length_map, List.length_map]) (by rw [List.length_map, List.length_map]; omega) (fun T hT => cond_mov rfl rfl hT) fun n S R hS hR => ?_) ?_
    · obtain ⟨_, rfl⟩ := map_get 0 hS
      rw [List.map_map] at hR
      obtain ⟨_, rfl⟩ := map_get (f := RI ∘ fun c => y.co.getD (y.co.length - 1) 0 * c) 0 hR
      exact ev_mul (ev_var rfl) (ev_var rfl) (cmul hlead (g1 n) (by omega))
    refine sj_freeze (i := 5) rfl ?_
    refine q_asgO (eo_lcL (Rs := ((dloop x.co y.co t).quo.map fun c => y.co.getD (y.co.length - 1) 0 * c).map RI) (ev_var rfl) (by rw [List.length_map, List.length_map, List.length_map]) (by rw [List.length_map, List.length_map]; omega) (fun T hT => cond_mov rfl rfl hT) fun n S R hS hR => ?_) ?_
    · obtain ⟨_, rfl⟩ := map_get 0 hS
      rw [List.map_map] at hR
      obtain ⟨_, rfl⟩ := map_get (f := RI ∘ fun c => y.co.getD (y.co.length - 1) 0 * c) 0 hR
      exact ev_mul (ev_var rfl) (ev_var rfl) (cmul hlead (g2 n) (by omega))
    refine q_for1 (n := (y.co.length : Int)) (ea1 (ev_var rfl)) (by omega) (by omega) (fun i => [.fz (RP K x), .fz (RP K y), .fz (RI (y.co.length : Nat)), .fz (RI (y.co.getD (y.co.length - 1) 0)), .own ((subIn (dlen x.co y.co - 1 - t) ((dloop x.co y.co t).rest.getD (dlen x.co y.co - 1 - t + y.co.length - 1) 0) y.co i ((dloop x.co y.co t).rest.map fun c => y.co.getD (y.co.length - 1) 0 * c)).map RI), .own (((dloop x.co y.co t).quo.map fun c => y.co.getD (y.co.length - 1) 0 * c).map RI), .fz (RI (dloop x.co y.co t).scale), .fz (RI ((dlen x.co y.co - 1 - t : Nat) : Int)), .fz (RI ((dloop x.co y.co t).rest.getD (dlen x.co y.co - 1 - t + y.co.length - 1) 0)), .any, .any, .any, .any]) ⟨.inr rfl, .inr rfl, .inr rfl, .inr rfl, .inr rfl, .inr rfl, .inr rfl, .inr rfl, .inr rfl, .inl rfl, .inl rfl, .inl rfl, .inl rfl, trivial⟩ (fun i hi => ?_) ?_
    · have hi' : i < y.co.length := by omega
      have li : dlen x.co y.co - 1 - t + i < (subIn (dlen x.co y.co - 1 - t) ((dloop x.co y.co t).rest.getD (dlen x.co y.co - 1 - t + y.co.length - 1) 0) y.co i ((dloop x.co y.co t).rest.map fun c => y.co.getD (y.co.length - 1) 0 * c)).length := by rw [subIn_len, List.length_map]; omega
      refine sj_setO (n := dlen x.co y.co - 1 - t + i) rfl (ev_sub (ev_ixO rfl (ev_i (ev_add (ev_var rfl) (ev_var rfl)) (by omega)) (get_map 0 li)) (ev_mul (ev_var rfl) (ev_ixT (ev_Pc T (ev_var rfl)) (ev_var rfl) (get_map 0 hi')) (cmul (g1 _) (lg_getD hy.2.2 i) (by omega)))) (ev_i (ev_add (ev_var rfl) (ev_var rfl)) (by omega)) (by rw [List.length_map]; exact li) (nx_sub ?_)
      refine ⟨.inr rfl, .inr rfl, .inr rfl, .inr rfl, .inr ?_, .inr rfl, .inr rfl, .inr rfl, .inr rfl, .inl rfl, .inl rfl, .inl rfl, .inl rfl, trivial⟩
      rw [map_set']
      rfl
    · rw [Int.toNat_natCast]
      have li : dlen x.co y.co - 1 - t < ((dloop x.co y.co t).quo.map fun c => y.co.getD (y.co.length - 1) 0 * c).length := by rw [List.length_map]; omega
      refine q_setO (n := dlen x.co y.co - 1 - t) rfl (ev_add (ev_ixO rfl (ev_var rfl) (get_map 0 li)) (ev_var rfl)) (ev_var rfl) (by rw [List.length_map]; exact li) ?_
      refine sj_asg (ev_mul (ev_var rfl) (ev_var rfl) (cmul g3 hlead (by omega))) (nx_sub ?_)
      refine ⟨.inr rfl, .inr rfl, .inr rfl, .inr rfl, .inr rfl, .inr ?_, .inr rfl, .inl rfl, .inl rfl, .inl rfl, .inl rfl, .inl rfl, .inl rfl, trivial⟩
      rw [map_set']
      rfl
  · rw [show ((dlen x.co y.co : Int) - 1 - -1).toNat = dlen x.co y.co by omega]
    obtain ⟨ll1, ll2⟩ := dloop_len x.co y.co (dlen x.co y.co)
    obtain ⟨g1, g2, g3⟩ := dloop_lg hx.2.2 hy.2.2 (dlen x.co y.co)
    have hden : (dloop x.co y.co (dlen x.co y.co)).scale * x.den ≠ 0 := mul_ne (dloop_scale hz _) hx.1
    refine q_asg (ev_mul (ev_var rfl) (ev_Pd T (ev_var rfl)) (cmul g3 hx.2.1 (by omega))) ?_
    refine sj_freeze (i := 5) rfl ?_
    refine sj_freeze (i := 4) rfl ?_
    refine sj_ret (ev_tup (ea2 (ev_make (ea2 (EO.ev (eo_lcL (Rs := ((dloop x.co y.co (dlen x.co y.co)).quo.map fun c => c * y.den).map RI) (ev_var rfl) (by rw [List.length_map, List.length_map, List.length_map]) (by rw [List.length_map, List.length_map]; omega) (fun T hT => cond_mov rfl rfl hT) fun n S R hS hR => ?_)) (ev_var rfl)) (us_Pi (false, (dloop x.co y.co (dlen x.co y.co)).quo.map fun c => c * y.den, _) ⟨hden, ?_⟩)) (ev_make (ea2 (ev_var rfl) (ev_var rfl)) (us_Pi (false, (dloop x.co y.co (dlen x.co y.co)).rest, _) ⟨hden, ?_⟩))) (by simp)) q
    · obtain ⟨_, rfl⟩ := map_get 0 hS
      rw [List.map_map] at hR
      obtain ⟨_, rfl⟩ := map_get (f := RI ∘ fun c => c * y.den) 0 hR
      exact ev_mul (ev_var rfl) (ev_Pd T (ev_var rfl)) (cmul (g2 n) hy.2.1 (by omega))
    · show (List.map _ _).length ≤ 100000
      rw [List.length_map]; omega
    · show (dloop x.co y.co (dlen x.co y.co)).rest.length ≤ 100000
      omega
abbrev Pr_divide (P : Program) (w : World) (K : Frag) (mg : Str → Option Value) (base : Heap) : Prop := Pr P w K mg base 44 (ga K "divide") ["p", "q"] [] (sp_divide K)
theorem ok_divide (N : En P K mg base) : Pr_divide P w K mg base := by
  obtain ⟨fd, F, h⟩ := fn_divide (w := w) N
  exact pr_mk F h (F.bindsN fun _ _ _ _ _ _ us hl => match us, hl with | [_, _], _ => rfl)
abbrev sn_exact : List Str := ["p", "q"]
theorem sc_exact : FnScope sn_exact ["p", "q"] (defScope s_exact) := ⟨rfl, rfl, rfl, by decide +kernel, rfl, by decide +kernel, by decide +kernel⟩
abbrev sp_exact (K : Frag) : Sp := SpG (ι := Po × Po) (fun p => DOk p.1 p.2) (fun p => [RP K p.1, RP K p.2]) (fun p => RP K (pExact p.1 p.2))
theorem us_exact {K : Frag} (i : Po × Po) (h : (fun p => DOk p.1 p.2) i) : ∀ vs H Q E, SpF ((fun p => [RP K p.1, RP K p.2]) i) ((fun p => RP K (pExact p.1 p.2)) i) vs H Q E → sp_exact K vs H Q E := fun _ _ _ _ q => ⟨i, h, q⟩
abbrev Fn_exact (P : Program) (w : World) (K : Frag) (mg : Str → Option Value) (base : Heap) : Prop := ∃ fd, DefF K "exact" "exact" s_exact [] [] (ga K "exact") fd ∧ FnOk P w K mg base CX0 45 (ga K "exact") fd ["p", "q"] (sp_exact K)
theorem fn_exact (N : En P K mg base) : Fn_exact P w K mg base := by
  have h_divide := ok_divide (w := w) N
  obtain ⟨T, S, ns, tr⟩ := N
  obtain ⟨fd, F⟩ := S.def_ 43
  refine ⟨fd, F, def_ok F sc_exact (fun _ => rfl) fun cdv A' outer s H E hr => ⟨_, (pss_one (ps_ret (pe_ix ix_tup (pe_callP h_divide hr (by decide) rfl T.g_divide (pa_cons (pv 0) (pa_cons (pv 1) pa_nil))) pe_int (fun _ _ => rfl)))), fun i hy F0 H0 Q q => ?_⟩⟩
  obtain ⟨x, y⟩ := i
  replace hy : DOk x y := hy
  change SJ F0 H0 _ (ctx [RP K x, RP K y] _) _
  exact sj_ret (ev_ixT (n := 0) (ev_call (ea2 (ev_var rfl) (ev_var rfl)) (us_divide (x, y) hy)) ev_c rfl) q
abbrev Pr_exact (P : Program) (w : World) (K : Frag) (mg : Str → Option Value) (base : Heap) : Prop := Pr P w K mg base 45 (ga K "exact") ["p", "q"] [] (sp_exact K)
theorem ok_exact (N : En P K mg base) : Pr_exact P w K mg base := by
  obtain ⟨fd, F, h⟩ := fn_exact (w := w) N
  exact pr_mk F h (F.bindsN fun _ _ _ _ _ _ us hl => match us, hl with | [_, _], _ => rfl)
abbrev sn_monic : List Str := ["p"]
theorem sc_monic : FnScope sn_monic ["p"] (defScope s_monic) := ⟨rfl, rfl, rfl, by decide +kernel, rfl, by decide +kernel, by decide +kernel⟩
abbrev sp_monic (K : Frag) : Sp := SpG (ι := Po) (fun p => MOk p) (fun p => [RP K p]) (fun p => RP K (monic p))
theorem us_monic {K : Frag} (i : Po) (h : (fun p => MOk p) i) : ∀ vs H Q E, SpF ((fun p => [RP K p]) i) ((fun p => RP K (monic p)) i) vs H Q E → sp_monic K vs H Q E := fun _ _ _ _ q => ⟨i, h, q⟩
abbrev Fn_monic (P : Program) (w : World) (K : Frag) (mg : Str → Option Value) (base : Heap) : Prop := ∃ fd, DefF K "monic" "monic" s_monic [] [] (ga K "monic") fd ∧ FnOk P w K mg base CX0 45 (ga K "monic") fd ["p"] (sp_monic K)
theorem fn_monic (N : En P K mg base) : Fn_monic P w K mg base := by
  have h_Pz := ok_Pz (w := w) N
  have h_Pscaled := ok_Pscaled (w := w) N
  have h_Fi := ok_Fi (w := w) N
  have h_Fi1 := ok_Fi1 (w := w) N
  have h_Fover := ok_Fover (w := w) N
  have h_Plead := ok_Plead (w := w) N
  obtain ⟨T, S, ns, tr⟩ := N
  obtain ⟨fd, F⟩ := S.def_ 44
  refine ⟨fd, F, def_ok F sc_monic (fun _ => rfl) fun cdv A' outer s H E hr => ⟨_, (pss_cons (ps_if (pt_val (pe_propP h_Pz hr (by decide) T.c_P T.p_Pz (pv 0))) (pss_one (ps_ret (pv 0))) pss_nil)
      (pss_one (ps_ret (pe_methP h_Pscaled hr (by decide) T.c_P T.m_Pscaled (pv 0) (pa_cons (pe_methP h_Fover hr (by decide) T.c_F T.m_Fover (pe_makeP h_Fi1 hr (by decide) T.mk_F rfl T.g_F (pa_cons pe_int pa_nil)) (pa_cons (pe_propP h_Plead hr (by decide) T.c_P T.p_Plead (pv 0)) pa_nil)) pa_nil))))), fun i hy F0 H0 Q q => ?_⟩⟩
  obtain ⟨p, rfl⟩ : ∃ zz, zz = i := ⟨i, rfl⟩
  replace hy : MOk p := hy
  change SJ F0 H0 _ (ctx [RP K p] _) _
  refine q_when (et_B (ev_Pz (ev_var rfl))) (fun hb => ?_) fun hb => ?_
  · refine sj_ret (ev_r (ev_var rfl) ?_) q
    unfold monic
    rw [if_pos hb]
  · rcases hy with hy | ⟨hz, a, L, hw, ha, hL⟩
    · rw [hy] at hb; cases hb
    have hd : p.den ≠ 0 := hw.z.1.1
    have e1 : pLead p = mkF (p.co.getD (p.co.length - 1) 0) 1 := by
      unfold pLead
      rw [if_neg hz.1, hw.1]
    have hn : (pLead p).num ≠ 0 := by rw [e1]; exact nz_lead hz
    have hf1 : SzF 0 (mkF 1 1) := sz_mkF (by decide) (by decide) (by decide)
    have hf2 : SzF a (pLead p) := sz_pLead ⟨hd, hw.z.1.2.1, hw.2.1⟩
    have hf3 : S2F 0 a (fOver (mkF 1 1) (pLead p)) := by
      rw [e1]
      exact s2_over hz.2 (lg_getD hw.2.1 _)
    refine sj_ret (ev_r (ev_meth (ev_var rfl) (rn_no (by decide)) (ea1 (ev_meth (ev_make (ea1 ev_c) (us_Fi (1, 1) one_ne)) (rn_no (by decide)) (ea1 (ev_Plead (ev_var rfl) hd)) (us_Fover (mkF 1 1, pLead p) ⟨0, a, hf1, hf2, by omega, hn⟩))) (us_Pscaled (p, _) ⟨a, 0, 0, a, hw.s2, hf3, by omega, by omega, Nat.le_trans hw.2.2 (by omega)⟩)) ?_) q
    show RP K (pScaled p (fOver (mkF 1 1) (pLead p))) = _
    unfold monic
    rw [if_neg (by rw [hb]; exact Bool.false_ne_true)]
abbrev Pr_monic (P : Program) (w : World) (K : Frag) (mg : Str → Option Value) (base : Heap) : Prop := Pr P w K mg base 45 (ga K "monic") ["p"] [] (sp_monic K)
theorem ok_monic (N : En P K mg base) : Pr_monic P w K mg base := by
  obtain ⟨fd, F, h⟩ := fn_monic (w := w) N
  exact pr_mk F h (F.bindsN fun _ _ _ _ _ _ us hl => match us, hl with | [_], _ => rfl)
abbrev sn_primitive : List Str := ["p"]
theorem sc_primitive : FnScope sn_primitive ["p"] (defScope s_primitive) := ⟨rfl, rfl, rfl, by decide +kernel, rfl, by decide +kernel, by decide +kernel⟩
abbrev sp_primitive (K : Frag) : Sp := SpG (ι := Po) (fun p => COk p) (fun p => [RP K p]) (fun p => RP K (primitive p))
theorem us_primitive {K : Frag} (i : Po) (h : (fun p => COk p) i) : ∀ vs H Q E, SpF ((fun p => [RP K p]) i) ((fun p => RP K (primitive p)) i) vs H Q E → sp_primitive K vs H Q E := fun _ _ _ _ q => ⟨i, h, q⟩
abbrev Fn_primitive (P : Program) (w : World) (K : Frag) (mg : Str → Option Value) (base : Heap) : Prop := ∃ fd, DefF K "primitive" "primitive" s_primitive [] [] (ga K "primitive") fd ∧ FnOk P w K mg base CX0 44 (ga K "primitive") fd ["p"] (sp_primitive K)
theorem fn_primitive (N : En P K mg base) : Fn_primitive P w K mg base := by
  have h_Pz := ok_Pz (w := w) N
  have h_Pi := ok_Pi (w := w) N
  have h_contentT := ok_contentT (w := w) N
  obtain ⟨T, S, ns, tr⟩ := N
  obtain ⟨fd, F⟩ := S.def_ 45
  refine ⟨fd, F, def_ok F sc_primitive (fun _ => rfl) fun cdv A' outer s H E hr => ⟨_, (pss_cons (ps_if (pt_val (pe_propP h_Pz hr (by decide) T.c_P T.p_Pz (pv 0))) (pss_one (ps_ret (pv 0))) pss_nil)
      (pss_one (ps_ret (pe_makeP h_Pi hr (by decide) T.mk_P rfl T.g_P (pa_cons (pe_fld (pv 0) rfl) (pa_cons (pe_callP h_contentT hr (by decide) rfl T.g_content (pa_cons (pe_fld (pv 0) rfl) pa_nil)) pa_nil)))))), fun i hy F0 H0 Q q => ?_⟩⟩
  obtain ⟨p, rfl⟩ : ∃ zz, zz = i := ⟨i, rfl⟩
  replace hy : COk p := hy
  change SJ F0 H0 _ (ctx [RP K p] _) _
  obtain ⟨h1, h2⟩ := hy
  refine q_when (et_B (ev_Pz (ev_var rfl))) (fun hb => ?_) fun hb => ?_
  · refine sj_ret (ev_r (ev_var rfl) ?_) q
    unfold primitive
    rw [if_pos hb]
  · have h3 : content p.co ≠ 0 := h1.resolve_left (by rw [hb]; exact Bool.false_ne_true)
    refine sj_ret (ev_r (ev_make (ea2 (ev_Pc T (ev_var rfl)) (ev_call (ea1 (ev_Pc T (ev_var rfl))) (us_contentT p.co trivial))) (us_Pi (true, p.co, content p.co) ⟨h3, Nat.le_trans h2 (by decide)⟩)) ?_) q
    show RP K (mkP p.co (content p.co)) = _
    unfold primitive
    rw [if_neg (by rw [hb]; exact Bool.false_ne_true)]
abbrev Pr_primitive (P : Program) (w : World) (K : Frag) (mg : Str → Option Value) (base : Heap) : Prop := Pr P w K mg base 44 (ga K "primitive") ["p"] [] (sp_primitive K)
theorem ok_primitive (N : En P K mg base) : Pr_primitive P w K mg base := by
  obtain ⟨fd, F, h⟩ := fn_primitive (w := w) N
  exact pr_mk F h (F.bindsN fun _ _ _ _ _ _ us hl => match us, hl with | [_], _ => rfl)
abbrev sn_cdiv : List Str := ["p", "q", "first", "second", "rest"]
theorem sc_cdiv : FnScope sn_cdiv ["p", "q"] (defScope s_cdiv) := ⟨rfl, rfl, rfl, by decide +kernel, rfl, by decide +kernel, by decide +kernel⟩
abbrev sp_cdiv (K : Frag) : Sp := SpG (ι := Po × Po) (fun p => GOk p.1 p.2) (fun p => [RP K p.1, RP K p.2]) (fun p => RP K (cdiv p.1 p.2))
theorem us_cdiv {K : Frag} (i : Po × Po) (h : (fun p => GOk p.1 p.2) i) : ∀ vs H Q E, SpF ((fun p => [RP K p.1, RP K p.2]) i) ((fun p => RP K (cdiv p.1 p.2)) i) vs H Q E → sp_cdiv K vs H Q E := fun _ _ _ _ q => ⟨i, h, q⟩
abbrev Fn_cdiv (P : Program) (w : World) (K : Frag) (mg : Str → Option Value) (base : Heap) : Prop := ∃ fd, DefF K "common_divisor" "common_divisor" s_cdiv [] [] (ga K "common_divisor") fd ∧ FnOk P w K mg base CX0 46 (ga K "common_divisor") fd ["p", "q"] (sp_cdiv K)
theorem fn_cdiv (N : En P K mg base) : Fn_cdiv P w K mg base := by
  have h_primitive := ok_primitive (w := w) N
  have h_Pz := ok_Pz (w := w) N
  have h_divide := ok_divide (w := w) N
  have h_monic := ok_monic (w := w) N
  obtain ⟨T, S, ns, tr⟩ := N
  obtain ⟨fd, F⟩ := S.def_ 46
  refine ⟨fd, F, def_ok F sc_cdiv (fun _ => rfl) fun cdv A' outer s H E hr => ⟨_, (pss_cons (ps_set (i := 2) sc_cdiv.nd rfl (Or.inl rfl) (pe_callP h_primitive hr (by decide) rfl T.g_primitive (pa_cons (pv 0) pa_nil)))
      (pss_cons (ps_set (i := 3) sc_cdiv.nd rfl (Or.inl rfl) (pe_callP h_primitive hr (by decide) rfl T.g_primitive (pa_cons (pv 1) pa_nil)))
      (pss_cons (ps_while PassesOwn.never (pt_not (pt_val (pe_propP h_Pz hr (by decide) T.c_P T.p_Pz (pv 3)))) (pss_cons (ps_set (i := 4) sc_cdiv.nd rfl (Or.inl rfl) (pe_ix ix_tup (pe_callP h_divide hr (by decide) rfl T.g_divide (pa_cons (pv 2) (pa_cons (pv 3) pa_nil))) pe_int (fun _ _ => rfl)))
      (pss_cons (ps_set (i := 2) sc_cdiv.nd rfl (Or.inl rfl) (pv 3))
      (pss_one (ps_set (i := 3) sc_cdiv.nd rfl (Or.inl rfl) (pe_callP h_primitive hr (by decide) rfl T.g_primitive (pa_cons (pv 4) pa_nil)))))))
      (pss_one (ps_ret (pe_callP h_monic hr (by decide) rfl T.g_monic (pa_cons (pv 2) pa_nil))))))), fun i hy F0 H0 Q q => ?_⟩⟩
  obtain ⟨x, y⟩ := i
  replace hy : GOk x y := hy
  change SJ F0 H0 _ (ctx [RP K x, RP K y] _) _
  refine q_asg (ev_call (ea1 (ev_var rfl)) (us_primitive x hy.cp)) ?_
  refine q_asg (ev_call (ea1 (ev_var rfl)) (us_primitive y hy.cq)) ?_
  refine q_while (gN x y) (fun t => [.fz (RP K x), .fz (RP K y), .fz (RP K (gseq (gstart x y) t).1), .fz (RP K (gseq (gstart x y) t).2), .any]) ⟨.inr rfl, .inr rfl, .inr rfl, .inr rfl, .inl rfl, trivial⟩ (fun t ht => ?_) (fun t ht => ?_) ?_
  · refine et_is (et_not (et_B (ev_Pz (ev_var rfl)))) ?_
    by_cases h : t < gN x y
    · rw [(hy.turn t h).1, decide_eq_true h]; rfl
    · have e : t = gN x y := by omega
      rw [decide_eq_false h, e, hy.stop]; rfl
  · obtain ⟨_, h1, h2⟩ := hy.turn t ht
    refine q_asg (ev_ixT (n := 1) (ev_call (ea2 (ev_var rfl) (ev_var rfl)) (us_divide (_, _) h1)) ev_c rfl) ?_
    refine q_asg (ev_var rfl) ?_
    exact sj_asg (ev_call (ea1 (ev_var rfl)) (us_primitive _ h2)) (nx_sub ⟨.inr rfl, .inr rfl, .inr rfl, .inr rfl, .inl rfl, trivial⟩)
  · exact sj_ret (ev_call (ea1 (ev_var rfl)) (us_monic _ hy.last)) q
abbrev Pr_cdiv (P : Program) (w : World) (K : Frag) (mg : Str → Option Value) (base : Heap) : Prop := Pr P w K mg base 46 (ga K "common_divisor") ["p", "q"] [] (sp_cdiv K)
theorem ok_cdiv (N : En P K mg base) : Pr_cdiv P w K mg base := by
  obtain ⟨fd, F, h⟩ := fn_cdiv (w := w) N
  exact pr_mk F h (F.bindsN fun _ _ _ _ _ _ us hl => match us, hl with | [_, _], _ => rfl)
abbrev sn_cdivof : List Str := ["polys", "result", "p"]
theorem sc_cdivof : FnScope sn_cdivof ["polys"] (defScope s_cdivof) := ⟨rfl, rfl, rfl, by decide +kernel, rfl, by decide +kernel, by decide +kernel⟩
abbrev sp_cdivof (K : Frag) : Sp := SpG (ι := List Po) (fun l => ∀ i, i < l.length → GOk (cdivN l i) (l.getD i p0)) (fun l => [RL (l.map (RP K))]) (fun l => RP K (cdivof l))
theorem us_cdivof {K : Frag} (i : List Po) (h : (fun l => ∀ i, i < l.length → GOk (cdivN l i) (l.getD i p0)) i) : ∀ vs H Q E, SpF ((fun l => [RL (l.map (RP K))]) i) ((fun l => RP K (cdivof l)) i) vs H Q E → sp_cdivof K vs H Q E := fun _ _ _ _ q => ⟨i, h, q⟩
abbrev Fn_cdivof (P : Program) (w : World) (K : Frag) (mg : Str → Option Value) (base : Heap) : Prop := ∃ fd, DefF K "common_divisor_of" "common_divisor_of" s_cdivof [] [] (ga K "common_divisor_of") fd ∧ FnOk P w K mg base CX0 47 (ga K "common_divisor_of") fd ["polys"] (sp_cdivof K)
theorem fn_cdivof (N : En P K mg base) : Fn_cdivof P w K mg base := by
  have h_Pi := ok_Pi (w := w) N
  have h_Pi1 := ok_Pi1 (w := w) N
  have h_cdiv := ok_cdiv (w := w) N
  obtain ⟨T, S, ns, tr⟩ := N
  obtain ⟨fd, F⟩ := S.def_ 47
  refine ⟨fd, F, def_ok F sc_cdivof (fun _ => rfl) fun cdv A' outer s H E hr => ⟨_, (pss_cons (ps_set (i := 1) sc_cdivof.nd rfl (Or.inl rfl) (pe_makeP h_Pi1 hr (by decide) T.mk_P rfl T.g_P (pa_cons (pe_lst pa_nil) pa_nil)))
      (pss_cons (ps_for PassesOwn.never rfl (pi_list (pv 0)) (pg_name (i := 2) sc_cdivof.nd rfl (Or.inl rfl)) (pss_one (ps_set (i := 1) sc_cdivof.nd rfl (Or.inl rfl) (pe_callP h_cdiv hr (by decide) rfl T.g_cdiv (pa_cons (pv 1) (pa_cons (pv 2) pa_nil))))))
      (pss_one (ps_ret (pv 1))))), fun i hy F0 H0 Q q => ?_⟩⟩
  obtain ⟨l, rfl⟩ : ∃ zz, zz = i := ⟨i, rfl⟩
  replace hy : ∀ i, i < l.length → GOk (cdivN l i) (l.getD i p0) := hy
  change SJ F0 H0 _ (ctx [RL (l.map (RP K))] _) _
  refine q_asg (ev_make (ea1 (EO.ev (eo_lst ea_nil (by simp)))) (us_Pi (false, [], 1) ⟨one_ne, by simp⟩)) ?_
  refine q_forL (ev_var rfl) (fun i => [.fz (RL (l.map (RP K))), .fz (RP K (cdivN l i)), .any]) ⟨.inr rfl, .inr rfl, .inl rfl, trivial⟩ (fun Fb u i R hR => ?_) ?_
  · obtain ⟨hi, rfl⟩ := map_get p0 hR
    exact sj_asg (ev_call (ea2 (ev_var rfl) (ev_var rfl)) (us_cdiv (_, _) (hy i hi))) (nx_sub ⟨.inr rfl, .inr rfl, .inl rfl, trivial⟩)
  · rw [List.length_map]
    exact sj_ret (ev_var rfl) q
abbrev Pr_cdivof (P : Program) (w : World) (K : Frag) (mg : Str → Option Value) (base : Heap) : Prop := Pr P w K mg base 47 (ga K "common_divisor_of") ["polys"] [] (sp_cdivof K)
theorem ok_cdivof (N : En P K mg base) : Pr_cdivof P w K mg base := by
  obtain ⟨fd, F, h⟩ := fn_cdivof (w := w) N
  exact pr_mk F h (F.bindsN fun _ _ _ _ _ _ us hl => match us, hl with | [_], _ => rfl)
end
end G
end
section
set_option maxRecDepth 100000
set_option maxHeartbeats 4000000
namespace G
open PySem PySem.Spec PyProof.Rows L2 He
open _root_.RT (ItvT iRevA pi_revA)
section
variable {P : Program} {w : World} {K : Frag} {mg : Str → Option Value} {base : Heap}
abbrev RFL (K : Frag) (l : List Fr) : Rp := RL (l.map (RF K))
abbrev RMX (K : Frag) (m : Mx) : Rp := RL (m.map (RFL K))
abbrev RNI (i : Nat) : Rp := RI (i : Int)
def vOpt : Option Nat → V
  | none => .non
  | some n => .int (n : Int)
abbrev ROpt (o : Option Nat) : Rp := RK (vOpt o)
def RNo : Rp := ⟨fun _ _ => False, fun _ _ _ _ h => h⟩
def RKA (K : Frag) : KA → Rp
  | .inv m => RT [RK (.str "inverse"), RMX K m]
  | .vec v => RT [RK (.str "vector"), RFL K v]
section
variable {Γ : List Ty} {ta tb te : TE} {R Ra Rb : Rp} {x y : Fr} {a b : Nat} {F0 H0 : Hp} {D : Ends} {tz tu : TS} {tt : TT}
theorem ev_Fadd (h : EV Γ ta (RF K x)) (h2 : EV Γ tb (RF K y)) (hx : SzF a x) (hy : SzF b y) (hs : a + b < 130000000) : EV Γ (tOp (rOwn2 (cA K "Fraction") (sp_Fadd K)) ta tb) (RF K (fAdd x y)) := ev_own2 h h2 rn_is rn_is (us_Fadd (x, y) ⟨a, b, hx, hy, hs⟩)
theorem ev_Fsub (h : EV Γ ta (RF K x)) (h2 : EV Γ tb (RF K y)) (hx : SzF a x) (hy : SzF b y) (hs : a + b < 130000000) : EV Γ (tOp (rOwn2 (cA K "Fraction") (sp_Fsub K)) ta tb) (RF K (fSub x y)) := ev_own2 h h2 rn_is rn_is (us_Fsub (x, y) ⟨a, b, hx, hy, hs⟩)
theorem ev_Fmul (h : EV Γ ta (RF K x)) (h2 : EV Γ tb (RF K y)) (hx : SzF a x) (hy : SzF b y) (hs : a + b < 130000000) : EV Γ (tOp (rOwn2 (cA K "Fraction") (sp_Fmul K)) ta tb) (RF K (fMul x y)) := ev_own2 h h2 rn_is rn_is (us_Fmul (x, y) ⟨a, b, hx, hy, hs⟩)
theorem ev_Fneg (h : EV Γ ta (RF K x)) (hx : SzF a x) : EV Γ (tUn (rOwn1 (cA K "Fraction") (sp_Fneg K)) ta) (RF K (fNeg x)) := ev_own1 h rn_is (us_Fneg x hx.1)
theorem ev_Fover (h : EV Γ ta (RF K x)) (h2 : EV Γ tb (RF K y)) (hx : SzF a x) (hy : SzF b y) (hs : a + b < 130000000) (h0 : y.num ≠ 0) : EV Γ (tMeth (cA K "Fraction") "over" (sp_Fover K) [] E0 ta (tCons tb tNil)) (RF K (fOver x y)) := ev_meth h (rn_no (by decide)) (ea1 h2) (us_Fover (x, y) ⟨a, b, hx, hy, hs, h0⟩)
theorem ev_F1 {i : Int} (h : EV Γ ta (RI i)) : EV Γ (tMake (cA K "Fraction") (sp_Fi K) [.int 1] E0 (tCons ta tNil)) (RF K (mkF i 1)) := ev_make (ea1 h) (us_Fi (i, 1) one_ne)
theorem ev_ixF {l : List Fr} {i : Nat} (h : EV Γ ta (RFL K l)) (hi : EV Γ tb (RI (i : Int))) (hl : i < l.length) : EV Γ (tOp (rIxL K) ta tb) (RF K (l.getD i f0)) := ev_ixL h hi (get_map f0 hl)
theorem ev_ixM {m : Mx} {i : Nat} (h : EV Γ ta (RMX K m)) (hi : EV Γ tb (RI (i : Int))) (hl : i < m.length) : EV Γ (tOp (rIxL K) ta tb) (RFL K (m.getD i [])) := ev_ixL h hi (get_map [] hl)
theorem ev_ixN {l : List Nat} {i : Nat} (h : EV Γ ta (RL (l.map RNI))) (hi : EV Γ tb (RI (i : Int))) (hl : i < l.length) : EV Γ (tOp (rIxL K) ta tb) (RNI (l.getD i 0)) := ev_ixL h hi (get_map 0 hl)
theorem ev_lenM {α : Type} {f : α → Rp} {l : List α} (h : EV Γ ta (RL (l.map f))) : EV Γ (tCB (rLenS K) (tCons ta tNil)) (RI (l.length : Nat)) := ev_i (ev_lenL h) (by rw [List.length_map])
theorem ev_lenMT {α : Type} {f : α → Rp} {l : List α} (h : EV Γ ta (RT (l.map f))) : EV Γ (tCB (rLenS K) (tCons ta tNil)) (RI (l.length : Nat)) := ev_i (ev_lenT h) (by rw [List.length_map])
theorem ev_lenMO {α : Type} {f : α → Rp} {l : List α} {j : Nat} (h : Γ[j]? = some (.own (l.map f))) : EV Γ (tCB (rLenS K) (tCons (tVar j) tNil)) (RI (l.length : Nat)) := ev_i (ev_lenO h) (by rw [List.length_map])
/-- a context that cannot be -/
theorem sj_no {i : Nat} {t : TS} (h : Γ[i]? = some (.fz RNo)) : SJ F0 H0 D Γ t := fun σ F H e o => by
  obtain ⟨v, _, r⟩ := o.slot i _ h
  exact r.elim
/-- the context by the turn: past the first place none -/
def ctxF (Γ : List Ty) (o : Option Nat) (lo i : Nat) : List Ty := match o with
  | none => Γ
  | some k => if lo + i ≤ k then Γ else Γ.set 0 (.fz RNo)
theorem ctxF_le {o : Option Nat} {lo i : Nat} (h : ∀ k, o = some k → lo + i ≤ k) : ctxF Γ o lo i = Γ := by
  unfold ctxF
  split
  · rfl
  · rename_i k
    rw [if_pos (h k rfl)]
/-- for j in range(lo, n): if test: return j; then None -/
theorem q_first2 {t : TA} {j lo n : Nat} {p : Nat → Bool} (h : EA Γ t [RI (lo : Int), RI (n : Int)]) (hb : lo ≤ 100000 ∧ n ≤ 100000) (hj : j ≠ 0) (hl : 0 < Γ.length) (ha : Γ[j]? = some .any)
    (ht : ∀ i, lo ≤ i → i < n → ET (Γ.set j (.fz (RI (i : Int)))) tt (p i)) (hr : RTn F0 H0 D.rt (ROpt (firstN p (n - lo) lo))) :
    SJ F0 H0 D Γ (tSeq (tFor (iRng2 t) (gName j) (tIfS tt (tRet (tVar j)) tNext)) (tRet (tC .non))) := by
  have hjl : j < Γ.length := by
    rcases Nat.lt_or_ge j Γ.length with z | z
    · exact z
    · rw [List.getElem?_eq_none z] at ha; cases ha
  refine q_for2 (lo := (lo : Int)) (n := (n : Int)) h (by omega) (ctxF Γ (firstN p (n - lo) lo) lo) ?_ (fun i hi => ?_) ?_
  · rw [ctxF_le fun k e => by have := firstN_some e; omega]
    exact Sub.refl _
  · have hi' : lo + i < n := by omega
    rw [show ((lo : Int) + (i : Int)) = ((lo + i : Nat) : Int) by omega]
    by_cases hk : ∃ k, firstN p (n - lo) lo = some k ∧ k < lo + i
    · obtain ⟨k, e, hlt⟩ := hk
      refine sj_no (i := 0) ?_
      unfold ctxF
      rw [e]
      show ((if lo + i ≤ k then Γ else Γ.set 0 (.fz RNo)).set j _)[0]? = _
      rw [if_neg (by omega), List.getElem?_set_ne hj, List.getElem?_set_self hl]
    · have e0 : ctxF Γ (firstN p (n - lo) lo) lo i = Γ := ctxF_le fun k e => by
        rcases Nat.lt_or_ge k (lo + i) with z | z
        · exact (hk ⟨k, e, z⟩).elim
        · exact z
      rw [e0]
      refine sj_if (ht (lo + i) (by omega) hi') (fun hp => ?_) fun hp => ?_
      · have e : firstN p (n - lo) lo = some (lo + i) := by
          cases e : firstN p (n - lo) lo with
          | none =>
            have := firstN_none e i (by omega)
            rw [hp] at this; cases this
          | some k =>
            obtain ⟨h1, h2, h3, h4⟩ := firstN_some e
            have hge : lo + i ≤ k := by
              rcases Nat.lt_or_ge k (lo + i) with z | z
              · exact (hk ⟨k, e, z⟩).elim
              · exact z
            rcases Nat.lt_or_ge (lo + i) k with z | z
            · have := h4 (lo + i) (by omega) z
              rw [hp] at this; cases this
            · rw [show k = lo + i by omega]
        rw [e] at hr
        exact sj_ret (ev_var (R := RI ((lo + i : Nat) : Int)) (List.getElem?_set_self hjl)) hr
      · refine sj_next ?_
        have e1 : ctxF Γ (firstN p (n - lo) lo) lo (i + 1) = Γ := ctxF_le fun k e => by
          obtain ⟨h1, h2, h3, h4⟩ := firstN_some e
          rcases Nat.lt_or_ge k (lo + (i + 1)) with z | z
          · have : k = lo + i := by
              rcases Nat.lt_or_ge k (lo + i) with z2 | z2
              · exact (hk ⟨k, e, z2⟩).elim
              · omega
            rw [this, hp] at h3; cases h3
          · exact z
        rw [e1]
        refine nx_sub ?_
        have e2 : Γ.set j Ty.any = Γ := by
          apply List.ext_getElem?
          intro m
          rw [List.getElem?_set]
          split
          · rename_i e; subst e; rw [ha]
          · rfl
        have : Sub (Γ.set j (.fz (RI ((lo + i : Nat) : Int)))) (Γ.set j Ty.any) := by
          clear e2 ha hjl ht e0 e1 h hr hk hl
          induction Γ generalizing j with
          | nil => exact trivial
          | cons T Γ ih =>
            cases j with
            | zero => exact ⟨.inl rfl, Sub.refl _⟩
            | succ j =>
              refine ⟨.inr rfl, ?_⟩
              cases j with
              | zero =>
                cases Γ with
                | nil => exact trivial
                | cons U Γ => exact ⟨.inl rfl, Sub.refl _⟩
              | succ j => exact ih (by omega)
        rw [e2] at this
        exact this
  · rw [show ((n : Int) - (lo : Int)).toNat = n - lo by omega]
    cases e : firstN p (n - lo) lo with
    | none =>
      rw [e] at hr
      exact sj_ret ev_c hr
    | some k =>
      obtain ⟨h1, h2, h3, h4⟩ := firstN_some e
      refine sj_no (i := 0) ?_
      show (if lo + (n - lo) ≤ k then Γ else Γ.set 0 (.fz RNo))[0]? = _
      rw [if_neg (by omega), List.getElem?_set_self hl]
end
abbrev sn_combine : List Str := ["vector", "rows", "width", "total", "index", "_", "column"]
theorem sc_combine : FnScope sn_combine ["vector", "rows", "width"] (defScope s_combine) := ⟨rfl, rfl, rfl, by decide +kernel, rfl, by decide +kernel, by decide +kernel⟩
abbrev sp_combine (K : Frag) : Sp := SpG (ι := List Fr × Mx × Nat) (fun p => ∃ a b, (∀ f ∈ p.1, SzF a f) ∧ (∀ i c, SzF b (mGet p.2.1 i c)) ∧ (p.1.length + 1) * (a + b + 3) < 130000000 ∧ p.1.length ≤ p.2.1.length ∧ (∀ i, i < p.1.length → p.2.2 ≤ (p.2.1.getD i []).length) ∧ p.2.2 ≤ 100000 ∧ p.1.length ≤ 100000) (fun p => [RFL K p.1, RMX K p.2.1, RI (p.2.2 : Int)]) (fun p => RFL K (mComb p.1 p.2.1 p.2.2))
theorem us_combine {K : Frag} (i : List Fr × Mx × Nat) (h : (fun p => ∃ a b, (∀ f ∈ p.1, SzF a f) ∧ (∀ i c, SzF b (mGet p.2.1 i c)) ∧ (p.1.length + 1) * (a + b + 3) < 130000000 ∧ p.1.length ≤ p.2.1.length ∧ (∀ i, i < p.1.length → p.2.2 ≤ (p.2.1.getD i []).length) ∧ p.2.2 ≤ 100000 ∧ p.1.length ≤ 100000) i) : ∀ vs H Q E, SpF ((fun p => [RFL K p.1, RMX K p.2.1, RI (p.2.2 : Int)]) i) ((fun p => RFL K (mComb p.1 p.2.1 p.2.2)) i) vs H Q E → sp_combine K vs H Q E := fun _ _ _ _ q => ⟨i, h, q⟩
abbrev Fn_combine (P : Program) (w : World) (K : Frag) (mg : Str → Option Value) (base : Heap) : Prop := ∃ fd, DefF K "combine" "combine" s_combine [] [] (ga K "combine") fd ∧ FnOk P w K mg base CX0 44 (ga K "combine") fd ["vector", "rows", "width"] (sp_combine K)
theorem fn_combine (N : En P K mg base) : Fn_combine P w K mg base := by
  have h_Fi := ok_Fi (w := w) N
  have h_Fi1 := ok_Fi1 (w := w) N
  have h_Fz := ok_Fz (w := w) N
  have h_Fmul := ok_Fmul (w := w) N
  have h_Fadd := ok_Fadd (w := w) N
  obtain ⟨T, S, ns, tr⟩ := N
  obtain ⟨fd, F⟩ := S.def_ 48
  refine ⟨fd, F, def_ok F sc_combine (fun _ => rfl) fun cdv A' outer s H E hr => ⟨_, (pss_cons (ps_set (i := 3) sc_combine.nd rfl (Or.inr rfl) (pe_lc (own := [("_", 5)]) (g := gName 5) (by rfl) sc_combine.nd (pi_range1 rfl T.n_range (pa_cons (pv 2) pa_nil)) (blkOk_by (own := [("_", 5)]) (N := sn_combine) (sc := defScope s_combine) (by decide +kernel)) (fun _ _ _ _ _ => (pg_name (i := 5) sc_combine.nd rfl (by first | exact Or.inl rfl | exact Or.inr rfl))) (fun _ _ _ _ _ => pts_nil) (fun _ _ _ _ _ => (pe_makeP h_Fi1 hr (by decide) T.mk_F rfl T.g_F (pa_cons pe_int pa_nil)))))
      (pss_cons (ps_for PassesOwn.never rfl (pi_range1 rfl T.n_range (pa_cons (pe_callB call_len_seq (by rfl) T.n_len PySem.boot_len (pa_cons (pv 0) pa_nil)) pa_nil)) (pg_name (i := 4) sc_combine.nd rfl (Or.inr rfl)) (pss_one (ps_if (pt_not (pt_val (pe_propP h_Fz hr (by decide) T.c_F T.p_Fz (pe_ix ix_list (pv 0) (pv 4) (fun _ _ => rfl))))) (pss_one (ps_set (i := 3) sc_combine.nd rfl (Or.inr rfl) (pe_lc (own := [("column", 6)]) (g := gName 6) (by rfl) sc_combine.nd (pi_range1 rfl T.n_range (pa_cons (pv 2) pa_nil)) (blkOk_by (own := [("column", 6)]) (N := sn_combine) (sc := defScope s_combine) (by decide +kernel)) (fun _ _ _ _ _ => (pg_name (i := 6) sc_combine.nd rfl (by first | exact Or.inl rfl | exact Or.inr rfl))) (fun _ _ _ _ _ => pts_nil) (fun _ _ _ _ _ => (pe_op (op_bin h_Fadd T.o_Fadd.at_ T.o_Fadd.fn T.f_F hr (by decide)) (pe_ix (ix_listK K rfl) (pv 3) (pv 6) (fun _ _ => rfl)) (pe_op (op_bin h_Fmul T.o_Fmul.at_ T.o_Fmul.fn T.f_F hr (by decide)) (pe_ix (ix_listK K rfl) (pv 0) (pv 4) (fun _ _ => rfl)) (pe_ix (ix_listK K rfl) (pe_ix (ix_listK K rfl) (pv 1) (pv 4) (fun _ _ => rfl)) (pv 6) (fun _ _ => rfl)))))))) pss_nil)))
      (pss_one (ps_ret (pv 3))))), fun i hy F0 H0 Q q => ?_⟩⟩
  obtain ⟨v, rows, w⟩ := i
  replace hy : ∃ a b, (∀ f ∈ v, SzF a f) ∧ (∀ i c, SzF b (mGet rows i c)) ∧ (v.length + 1) * (a + b + 3) < 130000000 ∧ v.length ≤ rows.length ∧ (∀ i, i < v.length → w ≤ (rows.getD i []).length) ∧ w ≤ 100000 ∧ v.length ≤ 100000 := hy
  change SJ F0 H0 _ (ctx [RFL K v, RMX K rows, RI (w : Int)] _) _
  obtain ⟨a, b, hv, hr2, hs, hl, hw, hw2, hv2⟩ := hy
  refine q_asg (EO.ev (eo_lc1 (n := (w : Int)) (Rs := (List.replicate w f0).map (RF K)) (ea1 (ev_var rfl)) (by omega) (by rw [List.length_map, List.length_replicate]; omega) (by omega) (fun T hT => cond_mov rfl rfl hT) fun n R hR => ?_)) ?_
  · rw [List.map_replicate] at hR
    rw [List.eq_of_mem_replicate (List.mem_of_getElem? hR)]
    exact ev_F1 ev_c
  refine q_for1 (n := (v.length : Int)) (ea1 (ev_lenM (ev_var rfl))) (by omega) (by omega) (fun n => [.fz (RFL K v), .fz (RMX K rows), .fz (RI (w : Int)), .fz (RFL K (mCombN v rows w n)), .any, .any, .any]) ⟨.inr rfl, .inr rfl, .inr rfl, .inr rfl, .inl rfl, .inl rfl, .inl rfl, trivial⟩ (fun n hn => ?_) ?_
  · have hn' : n < v.length := by omega
    have e2 : mCombN v rows w (n + 1) = if (v.getD n f0).num = 0 then mCombN v rows w n else (List.range w).map fun c => fAdd ((mCombN v rows w n).getD c f0) (fMul (v.getD n f0) (mGet rows n c)) := rfl
    obtain ⟨hl2, hsz⟩ := mCombN_sz (w := w) hv hr2 n
    refine sj_if (et_not (et_B (ev_Fz (ev_ixF (ev_var rfl) (ev_var rfl) hn')))) (fun hb => ?_) fun hb => ?_
    · have h0 : ¬ (v.getD n f0).num = 0 := by
        intro z; rw [decide_eq_true z] at hb; cases hb
      refine sj_asg (EO.ev (eo_lc1 (n := (w : Int)) (Rs := ((List.range w).map fun c => fAdd ((mCombN v rows w n).getD c f0) (fMul (v.getD n f0) (mGet rows n c))).map (RF K)) (ea1 (ev_var rfl)) (by omega) (by rw [List.length_map, List.length_map, List.length_range]; omega) (by omega) (fun T hT => cond_mov rfl rfl hT) fun c R hR => ?_)) (nx_sub ?_)
      · obtain ⟨hc, rfl⟩ := range_map hR
        have e1 : n * (a + b + 3) + (a + b + 3) ≤ (v.length + 1) * (a + b + 3) := by
          rw [← Nat.succ_mul]
          exact Nat.mul_le_mul_right _ (by omega)
        exact ev_Fadd (ev_ixF (ev_var rfl) (ev_var rfl) (by rw [hl2]; exact hc)) (ev_Fmul (ev_ixF (ev_var rfl) (ev_var rfl) hn') (ev_ixF (ev_ixM (ev_var rfl) (ev_var rfl) (by omega)) (ev_var rfl) (by have := hw n hn'; omega)) (szf_getD hv n) (hr2 n c) (by omega)) (szf_getD hsz c) (sz_fMul (szf_getD hv n) (hr2 n c)) (by omega)
      · refine ⟨.inr rfl, .inr rfl, .inr rfl, .inr ?_, .inl rfl, .inl rfl, .inl rfl, trivial⟩
        rw [e2, if_neg h0]
    · have h0 : (v.getD n f0).num = 0 := by
        apply Decidable.byContradiction
        intro z; rw [decide_eq_false z] at hb; cases hb
      refine sj_next (nx_sub ⟨.inr rfl, .inr rfl, .inr rfl, .inr ?_, .inl rfl, .inl rfl, .inl rfl, trivial⟩)
      rw [e2, if_pos h0]
  · rw [Int.toNat_natCast]
    exact sj_ret (ev_var rfl) q
abbrev Pr_combine (P : Program) (w : World) (K : Frag) (mg : Str → Option Value) (base : Heap) : Prop := Pr P w K mg base 44 (ga K "combine") ["vector", "rows", "width"] [] (sp_combine K)
theorem ok_combine (N : En P K mg base) : Pr_combine P w K mg base := by
  obtain ⟨fd, F, h⟩ := fn_combine (w := w) N
  exact pr_mk F h (F.bindsN fun _ _ _ _ _ _ us hl => match us, hl with | [_, _, _], _ => rfl)
abbrev sn_multiply : List Str := ["left", "right", "width", "row"]
theorem sc_multiply : FnScope sn_multiply ["left", "right", "width"] (defScope s_multiply) := ⟨rfl, rfl, rfl, by decide +kernel, rfl, by decide +kernel, by decide +kernel⟩
abbrev sp_multiply (K : Frag) : Sp := SpG (ι := Mx × Mx × Nat) (fun p => ∃ a b, (∀ i c, SzF b (mGet p.2.1 i c)) ∧ (∀ r ∈ p.1, (∀ f ∈ r, SzF a f) ∧ (r.length + 1) * (a + b + 3) < 130000000 ∧ r.length ≤ p.2.1.length ∧ (∀ i, i < r.length → p.2.2 ≤ (p.2.1.getD i []).length) ∧ r.length ≤ 100000) ∧ p.2.2 ≤ 100000 ∧ p.1.length ≤ 100000) (fun p => [RMX K p.1, RMX K p.2.1, RI (p.2.2 : Int)]) (fun p => RMX K (mMul p.1 p.2.1 p.2.2))
theorem us_multiply {K : Frag} (i : Mx × Mx × Nat) (h : (fun p => ∃ a b, (∀ i c, SzF b (mGet p.2.1 i c)) ∧ (∀ r ∈ p.1, (∀ f ∈ r, SzF a f) ∧ (r.length + 1) * (a + b + 3) < 130000000 ∧ r.length ≤ p.2.1.length ∧ (∀ i, i < r.length → p.2.2 ≤ (p.2.1.getD i []).length) ∧ r.length ≤ 100000) ∧ p.2.2 ≤ 100000 ∧ p.1.length ≤ 100000) i) : ∀ vs H Q E, SpF ((fun p => [RMX K p.1, RMX K p.2.1, RI (p.2.2 : Int)]) i) ((fun p => RMX K (mMul p.1 p.2.1 p.2.2)) i) vs H Q E → sp_multiply K vs H Q E := fun _ _ _ _ q => ⟨i, h, q⟩
abbrev Fn_multiply (P : Program) (w : World) (K : Frag) (mg : Str → Option Value) (base : Heap) : Prop := ∃ fd, DefF K "multiply" "multiply" s_multiply [] [] (ga K "multiply") fd ∧ FnOk P w K mg base CX0 45 (ga K "multiply") fd ["left", "right", "width"] (sp_multiply K)
theorem fn_multiply (N : En P K mg base) : Fn_multiply P w K mg base := by
  have h_combine := ok_combine (w := w) N
  obtain ⟨T, S, ns, tr⟩ := N
  obtain ⟨fd, F⟩ := S.def_ 49
  refine ⟨fd, F, def_ok F sc_multiply (fun _ => rfl) fun cdv A' outer s H E hr => ⟨_, (pss_one (ps_ret (pe_lc (own := [("row", 3)]) (g := gName 3) (by rfl) sc_multiply.nd (pi_list (pv 0)) (blkOk_by (own := [("row", 3)]) (N := sn_multiply) (sc := defScope s_multiply) (by decide +kernel)) (fun _ _ _ _ _ => (pg_name (i := 3) sc_multiply.nd rfl (by first | exact Or.inl rfl | exact Or.inr rfl))) (fun _ _ _ _ _ => pts_nil) (fun _ _ _ _ _ => (pe_callP h_combine hr (by decide) rfl T.g_combine (pa_cons (pv 3) (pa_cons (pv 1) (pa_cons (pv 2) pa_nil)))))))), fun i hy F0 H0 Q q => ?_⟩⟩
  obtain ⟨l, rows, w⟩ := i
  replace hy : ∃ a b, (∀ i c, SzF b (mGet rows i c)) ∧ (∀ r ∈ l, (∀ f ∈ r, SzF a f) ∧ (r.length + 1) * (a + b + 3) < 130000000 ∧ r.length ≤ rows.length ∧ (∀ i, i < r.length → w ≤ (rows.getD i []).length) ∧ r.length ≤ 100000) ∧ w ≤ 100000 ∧ l.length ≤ 100000 := hy
  change SJ F0 H0 _ (ctx [RMX K l, RMX K rows, RI (w : Int)] _) _
  obtain ⟨a, b, h1, h2, h3, h4⟩ := hy
  refine sj_ret (EO.ev (eo_lcL (Rs := (mMul l rows w).map (RFL K)) (ev_var rfl) (by unfold mMul; rw [List.length_map, List.length_map, List.length_map]) (by unfold mMul; rw [List.length_map, List.length_map]; omega) (fun T hT => cond_mov rfl rfl hT) fun n S R hS hR => ?_)) q
  obtain ⟨hn, rfl⟩ := map_get [] hS
  unfold mMul at hR
  rw [List.map_map] at hR
  obtain ⟨_, rfl⟩ := map_get (f := RFL K ∘ fun row => mComb row rows w) [] hR
  obtain ⟨g1, g2, g3, g4, g5⟩ := h2 _ (getD_memL (d := []) hn)
  exact ev_call (ea_cons (ev_var rfl) (ea2 (ev_var rfl) (ev_var rfl))) (us_combine (l.getD n [], rows, w) ⟨a, b, g1, h1, g2, g3, g4, h3, g5⟩)
abbrev Pr_multiply (P : Program) (w : World) (K : Frag) (mg : Str → Option Value) (base : Heap) : Prop := Pr P w K mg base 45 (ga K "multiply") ["left", "right", "width"] [] (sp_multiply K)
theorem ok_multiply (N : En P K mg base) : Pr_multiply P w K mg base := by
  obtain ⟨fd, F, h⟩ := fn_multiply (w := w) N
  exact pr_mk F h (F.bindsN fun _ _ _ _ _ _ us hl => match us, hl with | [_, _, _], _ => rfl)
abbrev sn_identity : List Str := ["size", "row", "column"]
theorem sc_identity : FnScope sn_identity ["size"] (defScope s_identity) := ⟨rfl, rfl, rfl, by decide +kernel, rfl, by decide +kernel, by decide +kernel⟩
abbrev sp_identity (K : Frag) : Sp := SpG (ι := Nat) (fun n => n ≤ 100000) (fun n => [RI (n : Int)]) (fun n => RMX K (mIden n))
theorem us_identity {K : Frag} (i : Nat) (h : (fun n => n ≤ 100000) i) : ∀ vs H Q E, SpF ((fun n => [RI (n : Int)]) i) ((fun n => RMX K (mIden n)) i) vs H Q E → sp_identity K vs H Q E := fun _ _ _ _ q => ⟨i, h, q⟩
abbrev Fn_identity (P : Program) (w : World) (K : Frag) (mg : Str → Option Value) (base : Heap) : Prop := ∃ fd, DefF K "identity" "identity" s_identity [] [] (ga K "identity") fd ∧ FnOk P w K mg base CX0 43 (ga K "identity") fd ["size"] (sp_identity K)
theorem fn_identity (N : En P K mg base) : Fn_identity P w K mg base := by
  have h_Fi := ok_Fi (w := w) N
  have h_Fi1 := ok_Fi1 (w := w) N
  obtain ⟨T, S, ns, tr⟩ := N
  obtain ⟨fd, F⟩ := S.def_ 50
  refine ⟨fd, F, def_ok F sc_identity (fun _ => rfl) fun cdv A' outer s H E hr => ⟨_, (pss_one (ps_ret (pe_lc (own := [("row", 1)]) (g := gName 1) (by rfl) sc_identity.nd (pi_range1 rfl T.n_range (pa_cons (pv 0) pa_nil)) (blkOk_by (own := [("row", 1)]) (N := sn_identity) (sc := defScope s_identity) (by decide +kernel)) (fun _ _ _ _ _ => (pg_name (i := 1) sc_identity.nd rfl (by first | exact Or.inl rfl | exact Or.inr rfl))) (fun _ _ _ _ _ => pts_nil) (fun _ _ _ _ _ => (pe_lc (own := [("column", 2)]) (g := gName 2) (by rfl) sc_identity.nd (pi_range1 rfl T.n_range (pa_cons (pv 0) pa_nil)) (blkOk_by (own := [("column", 2)]) (N := sn_identity) (by kernel_rfl)) (fun _ _ _ _ _ => (pg_name (i := 2) sc_identity.nd rfl (by first | exact Or.inl rfl | exact Or.inr rfl))) (fun _ _ _ _ _ => pts_nil) (fun _ _ _ _ _ => (pe_makeP h_Fi1 hr (by decide) T.mk_F rfl T.g_F (pa_cons (pe_callTy call_int1 (by rfl) T.n_int bt_int (pa_cons (pe_cmpR op_eq (pv 1) (pv 2) (nomark _)) pa_nil)) pa_nil)))))))), fun i hy F0 H0 Q q => ?_⟩⟩
  obtain ⟨n, rfl⟩ : ∃ zz, zz = i := ⟨i, rfl⟩
  replace hy : n ≤ 100000 := hy
  change SJ F0 H0 _ (ctx [RI (n : Int)] _) _
  refine sj_ret (EO.ev (eo_lc1 (n := (n : Int)) (Rs := (mIden n).map (RFL K)) (ea1 (ev_var rfl)) (by omega) (by unfold mIden; rw [List.length_map, List.length_map, List.length_range]; omega) (by omega) (fun T hT => cond_mov rfl rfl hT) fun r R hR => ?_)) q
  obtain ⟨hr1, rfl⟩ := range_map hR
  refine EO.ev (eo_lc1 (n := (n : Int)) (Rs := ((List.range n).map fun c => mkF (if r = c then 1 else 0) 1).map (RF K)) (ea1 (ev_var rfl)) (by omega) (by rw [List.length_map, List.length_map, List.length_range]; omega) (by omega) (fun T hT => cond_mov rfl rfl hT) fun c R hR => ?_)
  obtain ⟨hc1, rfl⟩ := range_map hR
  refine ev_r (ev_F1 (ev_i (ev_intB (ev_eqI (ev_var rfl) (ev_var rfl))) rfl)) ?_
  congr 2
  by_cases h : r = c
  · rw [if_pos h, if_pos (decide_eq_true (by omega))]
  · rw [if_neg h, if_neg (by rw [decide_eq_false (by omega)]; exact Bool.false_ne_true)]
abbrev Pr_identity (P : Program) (w : World) (K : Frag) (mg : Str → Option Value) (base : Heap) : Prop := Pr P w K mg base 43 (ga K "identity") ["size"] [] (sp_identity K)
theorem ok_identity (N : En P K mg base) : Pr_identity P w K mg base := by
  obtain ⟨fd, F, h⟩ := fn_identity (w := w) N
  exact pr_mk F h (F.bindsN fun _ _ _ _ _ _ us hl => match us, hl with | [_], _ => rfl)
abbrev sn_ppS : List Str := ["table", "rank", "column", "place"]
theorem sc_ppS : FnScope sn_ppS ["table", "rank", "column"] (defScope s_ppS) := ⟨rfl, rfl, rfl, by decide +kernel, rfl, by decide +kernel, by decide +kernel⟩
abbrev sp_ppS (K : Frag) : Sp := SpG (ι := Mx × Nat × Nat) (fun p => (∀ i, i < p.1.length → p.2.2 < (p.1.getD i []).length) ∧ p.2.1 ≤ p.1.length ∧ p.1.length ≤ 100000) (fun p => [RMX K p.1, RI (p.2.1 : Int), RI (p.2.2 : Int)]) (fun p => ROpt (ppS p.1 p.2.1 p.2.2))
theorem us_ppS {K : Frag} (i : Mx × Nat × Nat) (h : (fun p => (∀ i, i < p.1.length → p.2.2 < (p.1.getD i []).length) ∧ p.2.1 ≤ p.1.length ∧ p.1.length ≤ 100000) i) : ∀ vs H Q E, SpF ((fun p => [RMX K p.1, RI (p.2.1 : Int), RI (p.2.2 : Int)]) i) ((fun p => ROpt (ppS p.1 p.2.1 p.2.2)) i) vs H Q E → sp_ppS K vs H Q E := fun _ _ _ _ q => ⟨i, h, q⟩
abbrev Fn_ppS (P : Program) (w : World) (K : Frag) (mg : Str → Option Value) (base : Heap) : Prop := ∃ fd, DefF K "pivot_place" "pivot_place" s_ppS [] [] (ga K "pivot_place_systems") fd ∧ FnOk P w K mg base CX0 43 (ga K "pivot_place_systems") fd ["table", "rank", "column"] (sp_ppS K)
theorem fn_ppS (N : En P K mg base) : Fn_ppS P w K mg base := by
  have h_Fz := ok_Fz (w := w) N
  obtain ⟨T, S, ns, tr⟩ := N
  obtain ⟨fd, F⟩ := S.def_ 51
  refine ⟨fd, F, def_ok F sc_ppS (fun _ => rfl) fun cdv A' outer s H E hr => ⟨_, (pss_cons (ps_for PassesOwn.never rfl (pi_range2 (by rfl) T.n_range (pa_cons (pv 1) (pa_cons (pe_callB call_len_seq (by rfl) T.n_len PySem.boot_len (pa_cons (pv 0) pa_nil)) pa_nil))) (pg_name (i := 3) sc_ppS.nd rfl (Or.inl rfl)) (pss_one (ps_if (pt_not (pt_val (pe_propP h_Fz hr (by decide) T.c_F T.p_Fz (pe_ix ix_list (pe_ix ix_list (pv 0) (pv 3) (fun _ _ => rfl)) (pv 2) (fun _ _ => rfl))))) (pss_one (ps_ret (pv 3))) pss_nil)))
      (pss_one (ps_ret pe_non))), fun i hy F0 H0 Q q => ?_⟩⟩
  obtain ⟨t, rank, c⟩ := i
  replace hy : (∀ i, i < t.length → c < (t.getD i []).length) ∧ rank ≤ t.length ∧ t.length ≤ 100000 := hy
  change SJ F0 H0 _ (ctx [RMX K t, RI (rank : Int), RI (c : Int)] _) _
  obtain ⟨h1, h2, h3⟩ := hy
  refine q_first2 (lo := rank) (n := t.length) (p := fun i => !decide ((mGet t i c).num = 0)) (ea2 (ev_var rfl) (ev_lenM (ev_var rfl))) (by omega) (by decide) (Nat.succ_pos _) rfl (fun i hi1 hi2 => ?_) q
  exact et_not (et_B (ev_Fz (ev_ixF (ev_ixM (ev_var rfl) (ev_var rfl) hi2) (ev_var rfl) (h1 i hi2))))
abbrev Pr_ppS (P : Program) (w : World) (K : Frag) (mg : Str → Option Value) (base : Heap) : Prop := Pr P w K mg base 43 (ga K "pivot_place_systems") ["table", "rank", "column"] [] (sp_ppS K)
theorem ok_ppS (N : En P K mg base) : Pr_ppS P w K mg base := by
  obtain ⟨fd, F, h⟩ := fn_ppS (w := w) N
  exact pr_mk F h (F.bindsN fun _ _ _ _ _ _ us hl => match us, hl with | [_, _, _], _ => rfl)
abbrev sn_without : List Str := ["row", "factor", "source", "index"]
theorem sc_without : FnScope sn_without ["row", "factor", "source"] (defScope s_without) := ⟨rfl, rfl, rfl, by decide +kernel, rfl, by decide +kernel, by decide +kernel⟩
abbrev sp_without (K : Frag) : Sp := SpG (ι := List Fr × Fr × List Fr) (fun p => ∃ a b, (∀ f ∈ p.1, SzF a f) ∧ SzF a p.2.1 ∧ (∀ f ∈ p.2.2, SzF b f) ∧ a + a + b + 1 < 130000000 ∧ p.1.length ≤ p.2.2.length ∧ p.1.length ≤ 100000) (fun p => [RFL K p.1, RF K p.2.1, RFL K p.2.2]) (fun p => RFL K (mWo p.1 p.2.1 p.2.2))
theorem us_without {K : Frag} (i : List Fr × Fr × List Fr) (h : (fun p => ∃ a b, (∀ f ∈ p.1, SzF a f) ∧ SzF a p.2.1 ∧ (∀ f ∈ p.2.2, SzF b f) ∧ a + a + b + 1 < 130000000 ∧ p.1.length ≤ p.2.2.length ∧ p.1.length ≤ 100000) i) : ∀ vs H Q E, SpF ((fun p => [RFL K p.1, RF K p.2.1, RFL K p.2.2]) i) ((fun p => RFL K (mWo p.1 p.2.1 p.2.2)) i) vs H Q E → sp_without K vs H Q E := fun _ _ _ _ q => ⟨i, h, q⟩
abbrev Fn_without (P : Program) (w : World) (K : Frag) (mg : Str → Option Value) (base : Heap) : Prop := ∃ fd, DefF K "without_multiple" "without_multiple" s_without [] [] (ga K "without_multiple") fd ∧ FnOk P w K mg base CX0 44 (ga K "without_multiple") fd ["row", "factor", "source"] (sp_without K)
theorem fn_without (N : En P K mg base) : Fn_without P w K mg base := by
  have h_Fz := ok_Fz (w := w) N
  have h_Fmul := ok_Fmul (w := w) N
  have h_Fsub := ok_Fsub (w := w) N
  obtain ⟨T, S, ns, tr⟩ := N
  obtain ⟨fd, F⟩ := S.def_ 52
  refine ⟨fd, F, def_ok F sc_without (fun _ => rfl) fun cdv A' outer s H E hr => ⟨_, (pss_cons (ps_if (pt_val (pe_propP h_Fz hr (by decide) T.c_F T.p_Fz (pv 1))) (pss_one (ps_ret (pv 0))) pss_nil)
      (pss_one (ps_ret (pe_lc (own := [("index", 3)]) (g := gName 3) (by rfl) sc_without.nd (pi_range1 rfl T.n_range (pa_cons (pe_callB (call_len_seqK K rfl) (by rfl) T.n_len PySem.boot_len (pa_cons (pv 0) pa_nil)) pa_nil)) (blkOk_by (own := [("index", 3)]) (N := sn_without) (sc := defScope s_without) (by decide +kernel)) (fun _ _ _ _ _ => (pg_name (i := 3) sc_without.nd rfl (by first | exact Or.inl rfl | exact Or.inr rfl))) (fun _ _ _ _ _ => pts_nil) (fun _ _ _ _ _ => (pe_op (op_bin h_Fsub T.o_Fsub.at_ T.o_Fsub.fn T.f_F hr (by decide)) (pe_ix (ix_listK K rfl) (pv 0) (pv 3) (fun _ _ => rfl)) (pe_op (op_bin h_Fmul T.o_Fmul.at_ T.o_Fmul.fn T.f_F hr (by decide)) (pv 1) (pe_ix (ix_listK K rfl) (pv 2) (pv 3) (fun _ _ => rfl))))))))), fun i hy F0 H0 Q q => ?_⟩⟩
  obtain ⟨row, f, src⟩ := i
  replace hy : ∃ a b, (∀ f ∈ row, SzF a f) ∧ SzF a f ∧ (∀ f ∈ src, SzF b f) ∧ a + a + b + 1 < 130000000 ∧ row.length ≤ src.length ∧ row.length ≤ 100000 := hy
  change SJ F0 H0 _ (ctx [RFL K row, RF K f, RFL K src] _) _
  obtain ⟨a, b, h1, h2, h3, hs, hl, hl2⟩ := hy
  refine q_when (et_B (ev_Fz (ev_var rfl))) (fun hb => ?_) fun hb => ?_
  · refine sj_ret (ev_r (ev_var rfl) ?_) q
    show RFL K row = RFL K (mWo row f src)
    unfold mWo
    rw [if_pos (of_decide_eq_true hb)]
  · refine sj_ret (ev_r (EO.ev (eo_lc1 (n := (row.length : Int)) (Rs := ((List.range row.length).map fun i => fSub (row.getD i f0) (fMul f (src.getD i f0))).map (RF K)) (ea1 (ev_lenM (ev_var rfl))) (by omega) (by rw [List.length_map, List.length_map, List.length_range]; omega) (by omega) (fun T hT => cond_mov rfl rfl hT) fun c R hR => ?_)) ?_) q
    · obtain ⟨hc, rfl⟩ := range_map hR
      exact ev_Fsub (ev_ixF (ev_var rfl) (ev_var rfl) hc) (ev_Fmul (ev_var rfl) (ev_ixF (ev_var rfl) (ev_var rfl) (by omega)) h2 (szf_getD h3 c) (by omega)) (szf_getD h1 c) (sz_fMul h2 (szf_getD h3 c)) (by omega)
    · show _ = RFL K (mWo row f src)
      unfold mWo
      rw [if_neg (of_decide_eq_false hb)]
abbrev Pr_without (P : Program) (w : World) (K : Frag) (mg : Str → Option Value) (base : Heap) : Prop := Pr P w K mg base 44 (ga K "without_multiple") ["row", "factor", "source"] [] (sp_without K)
theorem ok_without (N : En P K mg base) : Pr_without P w K mg base := by
  obtain ⟨fd, F, h⟩ := fn_without (w := w) N
  exact pr_mk F h (F.bindsN fun _ _ _ _ _ _ us hl => match us, hl with | [_, _, _], _ => rfl)
end
end G
end
section
set_option maxRecDepth 100000
set_option maxHeartbeats 4000000
namespace G
open PySem PySem.Spec PyProof.Rows L2 He
open _root_.RT (ItvT iRevA pi_revA)
section
variable {P : Program} {w : World} {K : Frag} {mg : Str → Option Value} {base : Heap}
abbrev RPL (K : Frag) (l : List Po) : Rp := RL (l.map (RP K))
abbrev RPM (K : Frag) (m : List (List Po)) : Rp := RL (m.map (RPL K))
def ratM (m : List (List Po)) (n : Nat) : Mx := m.map fun r => r.map fun p => pAt p (n : Int)
def isVec : KA → Bool
  | .vec _ => true
  | .inv _ => false
section
variable {Γ : List Ty} {ta tb te : TE} {R Ra Rb : Rp} {F0 H0 : Hp} {D : Ends} {tz tu : TS} {tt : TT}
theorem ev_ixP {l : List Po} {i : Nat} (h : EV Γ ta (RPL K l)) (hi : EV Γ tb (RI (i : Int))) (hl : i < l.length) : EV Γ (tOp (rIxL K) ta tb) (RP K (l.getD i p0)) := ev_ixL h hi (get_map p0 hl)
theorem ev_ixPM {m : List (List Po)} {i : Nat} (h : EV Γ ta (RPM K m)) (hi : EV Γ tb (RI (i : Int))) (hl : i < m.length) : EV Γ (tOp (rIxL K) ta tb) (RPL K (m.getD i [])) := ev_ixL h hi (get_map [] hl)
theorem sub_any {j : Nat} {T : Ty} : ∀ {Γ : List Ty}, Γ[j]? = some .any → Sub (Γ.set j T) Γ := by
  induction j with
  | zero =>
    intro Γ h
    cases Γ with
    | nil => cases h
    | cons U Γ =>
      cases (Option.some.inj (show some U = some Ty.any from h))
      exact ⟨.inl rfl, Sub.refl _⟩
  | succ j ih =>
    intro Γ h
    cases Γ with
    | nil => cases h
    | cons U Γ => exact ⟨.inr rfl, ih (show Γ[j]? = some .any from h)⟩
/-- for j in range(n): if test: return j; then None -/
theorem q_first1 {t : TA} {j n : Nat} {p : Nat → Bool} (h : EA Γ t [RI (n : Int)]) (hb : n ≤ 100000) (hj : j ≠ 0) (hl : 0 < Γ.length) (ha : Γ[j]? = some .any)
    (ht : ∀ i, i < n → ET (Γ.set j (.fz (RI (i : Int)))) tt (p i)) (hr : RTn F0 H0 D.rt (ROpt (firstN p n 0))) :
    SJ F0 H0 D Γ (tSeq (tFor (iRng1 t) (gName j) (tIfS tt (tRet (tVar j)) tNext)) (tRet (tC .non))) := by
  have hjl : j < Γ.length := by
    rcases Nat.lt_or_ge j Γ.length with z | z
    · exact z
    · rw [List.getElem?_eq_none z] at ha; cases ha
  refine q_for1 (n := (n : Int)) h (by omega) (by omega) (ctxF Γ (firstN p n 0) 0) ?_ (fun i hi => ?_) ?_
  · rw [ctxF_le fun k e => by have := firstN_some e; omega]
    exact Sub.refl _
  · have hi' : i < n := by omega
    by_cases hk : ∃ k, firstN p n 0 = some k ∧ k < i
    · obtain ⟨k, e, hlt⟩ := hk
      refine sj_no (i := 0) ?_
      unfold ctxF
      rw [e]
      show ((if 0 + i ≤ k then Γ else Γ.set 0 (.fz RNo)).set j _)[0]? = _
      rw [if_neg (by omega), List.getElem?_set_ne hj, List.getElem?_set_self hl]
    · have hge : ∀ k, firstN p n 0 = some k → i ≤ k := fun k e => by
        rcases Nat.lt_or_ge k i with z | z
        · exact (hk ⟨k, e, z⟩).elim
        · exact z
      have e0 : ctxF Γ (firstN p n 0) 0 i = Γ := ctxF_le fun k e => by have := hge k e; omega
      rw [e0]
      refine sj_if (ht i hi') (fun hp => ?_) fun hp => ?_
      · have e : firstN p n 0 = some i := by
          cases e : firstN p n 0 with
          | none =>
            have := firstN_none e i hi'
            rw [Nat.zero_add, hp] at this; cases this
          | some k =>
            obtain ⟨h1, h2, h3, h4⟩ := firstN_some e
            have := hge k e
            rcases Nat.lt_or_ge i k with z | z
            · have := h4 i (by omega) z
              rw [hp] at this; cases this
            · rw [show k = i by omega]
        rw [e] at hr
        exact sj_ret (ev_var (R := RI (i : Int)) (List.getElem?_set_self hjl)) hr
      · refine sj_next ?_
        have e1 : ctxF Γ (firstN p n 0) 0 (i + 1) = Γ := ctxF_le fun k e => by
          obtain ⟨h1, h2, h3, h4⟩ := firstN_some e
          have := hge k e
          rcases Nat.lt_or_ge k (0 + (i + 1)) with z | z
          · have : k = i := by omega
            rw [this, hp] at h3; cases h3
          · exact z
        rw [e1]
        exact nx_sub (sub_any ha)
  · rw [Int.toNat_natCast]
    cases e : firstN p n 0 with
    | none =>
      rw [e] at hr
      exact sj_ret ev_c hr
    | some k =>
      obtain ⟨h1, h2, h3, h4⟩ := firstN_some e
      refine sj_no (i := 0) ?_
      show (if 0 + n ≤ k then Γ else Γ.set 0 (.fz RNo))[0]? = _
      rw [if_neg (by omega), List.getElem?_set_self hl]
theorem inV_nat {c : Nat} : ∀ {p : List Nat}, inV (.int (c : Int)) (p.map fun i : Nat => V.int (i : Int)) = p.contains c
  | [] => rfl
  | x :: p => by
    have ih := inV_nat (c := c) (p := p)
    unfold inV at ih ⊢
    rw [List.map_cons, List.any_cons, ih, List.contains_cons]
    congr 1
    show ((x : Int) == (c : Int)) = (c == x)
    rw [Bool.eq_iff_iff, beq_iff_eq, beq_iff_eq]
    omega
theorem its_nat {p : List Nat} {vs : List V} {F : Hp} (h : Its (p.map RNI) vs F) : vs = p.map fun i : Nat => V.int (i : Int) := by
  have e : p.map RNI = (p.map fun i : Nat => V.int (i : Int)).map RK := by rw [List.map_map]; rfl
  rw [e] at h
  exact h.ks
theorem ev_notIn {c : Nat} {p : List Nat} (ha : EV Γ ta (RI (c : Int))) (hb : EV Γ tb (RL (p.map RNI))) : EV Γ (tOp (rIn K true) ta tb) (RB (!p.contains c)) :=
  ev_op ha hb fun x y F H Q e r1 r2 q => by
    cases (show x = .int (c : Int) from r1)
    obtain ⟨l, vs, rfl, h1, it⟩ := r2
    have ev := its_nat it
    subst ev
    refine ⟨l, _, rfl, .inl (.inl (.inl (e _ _ h1))), rfl, ?_, ?_⟩
    · rw [List.all_map]
      exact List.all_eq_true.mpr fun _ _ => rfl
    · rw [if_pos rfl, inV_nat]
      exact q _ F H (Le.refl e) rfl
/-- == of lists of lists of fractions that are the same -/
def SameF (K : Frag) (a b : Addr) (H : Hp) : Prop := ∃ p F, Ex F H ∧ (RF K p).r (.ref a) F ∧ (RF K p).r (.ref b) F
theorem sameF_mon (a b : Addr) (H H' : Hp) (e : Ext H H') (h : SameF K a b H) : SameF K a b H' := by
  obtain ⟨p, F, ex, r1, r2⟩ := h
  exact ⟨p, F, fun x o z => e _ _ (ex x o z), r1, r2⟩
end
theorem op_eqLL {X : Cx} {k : Nat} (T : Tx X.K X.mg) (h : Pr_Feq X.prog X.w X.K X.mg X.base) (hr : Room k X.A) (hk : 43 ≤ k) : OpR X (compareOp .Eq) (rEqG (DList (DList (DIns (cA X.K "Fraction") (SameF X.K))))) := by
  obtain ⟨fd, ds, F, b, v, kp⟩ := h
  cases v
  have F2 := F.imp (sp' := spEq (SameF X.K)) fun vs H Q E ⟨a, b, e, ⟨p, F, ex, r1, r2⟩, k⟩ => by
    subst e
    refine ⟨(p, p), trivial, F, ex, ⟨r1, r2, trivial⟩, fun v F3 H3 l r => ?_⟩
    have e2 : v = .bl (decide (p = p)) := r
    rw [e2, decide_eq_true rfl]
    exact k H3 l.h
  have m1 := mon_ins (C := cA X.K "Fraction") fun a b H H' e h => sameF_mon (K := X.K) a b H H' e h
  exact op_eqG (rcG_list (mon_list m1) (eqG_list m1 (eqG_ins F2 T.o_Feq.at_ T.o_Feq.fn b L2.pass0))) (hr.mono hk)
section
variable {Γ : List Ty} {ta tb te : TE}
theorem prs_sameF {F H : Hp} (ex : Ex F H) : ∀ {l : List Fr} {vs us : List V}, Its (l.map (RF K)) vs F → Its (l.map (RF K)) us F → Prs (DIns (cA K "Fraction") (SameF K)) vs us H
  | [], [], [], _, _ => Prs.nil
  | p :: l, v :: vs, u :: us, h1, h2 => by
    refine Prs.cons ?_ (prs_sameF ex h1.2 h2.2)
    obtain ⟨a, dx, ws, rfl, ha, it⟩ := h1.1
    obtain ⟨b, dy, ws2, rfl, hb, it2⟩ := h2.1
    exact ⟨a, b, dx, dy, _, _, rfl, rfl, ex _ _ ha, ex _ _ hb, p, F, ex, ⟨a, dx, ws, rfl, ha, it⟩, ⟨b, dy, ws2, rfl, hb, it2⟩⟩
theorem prs_sameM {F H : Hp} (ex : Ex F H) : ∀ {l : Mx} {vs us : List V}, Its (l.map (RFL K)) vs F → Its (l.map (RFL K)) us F → Prs (DList (DIns (cA K "Fraction") (SameF K))) vs us H
  | [], [], [], _, _ => Prs.nil
  | r :: l, v :: vs, u :: us, h1, h2 => by
    refine Prs.cons ?_ (prs_sameM ex h1.2 h2.2)
    obtain ⟨a, ws, rfl, ha, it⟩ := h1.1
    obtain ⟨b, ws2, rfl, hb, it2⟩ := h2.1
    exact ⟨a, b, ws, ws2, rfl, rfl, ex _ _ ha, ex _ _ hb, prs_sameF ex it it2⟩
theorem ev_eqMX {m : Mx} (ha : EV Γ ta (RMX K m)) (hb : EV Γ tb (RMX K m)) : EV Γ (tOp (rEqG (DList (DList (DIns (cA K "Fraction") (SameF K))))) ta tb) (RB true) :=
  ev_op ha hb fun x y F H Q e r1 r2 q => by
    obtain ⟨a, vs, rfl, h1, it⟩ := r1
    obtain ⟨b, us, rfl, h2, it2⟩ := r2
    refine ⟨⟨a, b, vs, us, rfl, rfl, e _ _ h1, e _ _ h2, prs_sameM e it it2⟩, fun H' ex => q (.bl true) F H' ⟨ex, Ex.refl _, fun x o z => ex _ _ (e x o z), fun _ _ z => z⟩ rfl⟩
end
abbrev sn_clearedS : List Str := ["table", "rank", "place", "column", "rows", "pivot", "factor", "result", "index", "entry"]
theorem sc_clearedS : FnScope sn_clearedS ["table", "rank", "place", "column"] (defScope s_clearedS) := ⟨rfl, rfl, rfl, by decide +kernel, rfl, by decide +kernel, by decide +kernel⟩
abbrev sp_clearedS (K : Frag) : Sp := SpG (ι := Mx × Nat × Nat × Nat) (fun p => ∃ a n m, TF a n m p.1 ∧ p.2.1 < n ∧ p.2.2.1 < n ∧ p.2.2.2 < m ∧ (mGet p.1 p.2.2.1 p.2.2.2).num ≠ 0 ∧ 4 * a + 5 < 130000000 ∧ n ≤ 100000 ∧ m ≤ 100000) (fun p => [RMX K p.1, RI (p.2.1 : Int), RI (p.2.2.1 : Int), RI (p.2.2.2 : Int)]) (fun p => RMX K (clS p.1 p.2.1 p.2.2.1 p.2.2.2))
theorem us_clearedS {K : Frag} (i : Mx × Nat × Nat × Nat) (h : (fun p => ∃ a n m, TF a n m p.1 ∧ p.2.1 < n ∧ p.2.2.1 < n ∧ p.2.2.2 < m ∧ (mGet p.1 p.2.2.1 p.2.2.2).num ≠ 0 ∧ 4 * a + 5 < 130000000 ∧ n ≤ 100000 ∧ m ≤ 100000) i) : ∀ vs H Q E, SpF ((fun p => [RMX K p.1, RI (p.2.1 : Int), RI (p.2.2.1 : Int), RI (p.2.2.2 : Int)]) i) ((fun p => RMX K (clS p.1 p.2.1 p.2.2.1 p.2.2.2)) i) vs H Q E → sp_clearedS K vs H Q E := fun _ _ _ _ q => ⟨i, h, q⟩
abbrev Fn_clearedS (P : Program) (w : World) (K : Frag) (mg : Str → Option Value) (base : Heap) : Prop := ∃ fd, DefF K "cleared" "cleared" s_clearedS [] [] (ga K "cleared_systems") fd ∧ FnOk P w K mg base CX0 45 (ga K "cleared_systems") fd ["table", "rank", "place", "column"] (sp_clearedS K)
theorem fn_clearedS (N : En P K mg base) : Fn_clearedS P w K mg base := by
  have h_Fi := ok_Fi (w := w) N
  have h_Fi1 := ok_Fi1 (w := w) N
  have h_Fover := ok_Fover (w := w) N
  have h_Fmul := ok_Fmul (w := w) N
  have h_without := ok_without (w := w) N
  obtain ⟨T, S, ns, tr⟩ := N
  obtain ⟨fd, F⟩ := S.def_ 53
  refine ⟨fd, F, def_ok F sc_clearedS (fun _ => rfl) fun cdv A' outer s H E hr => ⟨_, (pss_cons (ps_set (i := 4) sc_clearedS.nd rfl (Or.inl rfl) (pe_callTy call_list_of (by rfl) T.n_list bt_list (pa_cons (pv 0) pa_nil)))
      (pss_cons (ps_set (i := 5) sc_clearedS.nd rfl (Or.inl rfl) (pe_ix ix_list (pv 4) (pv 2) (fun _ _ => rfl)))
      (pss_cons (ps_asg (pe_ix ix_list (pv 4) (pv 1) (fun _ _ => rfl)) (pg_sub (pv 4) (pv 2) set_list))
      (pss_cons (ps_set (i := 6) sc_clearedS.nd rfl (Or.inr rfl) (pe_methP h_Fover hr (by decide) T.c_F T.m_Fover (pe_makeP h_Fi1 hr (by decide) T.mk_F rfl T.g_F (pa_cons pe_int pa_nil)) (pa_cons (pe_ix ix_list (pv 5) (pv 3) (fun _ _ => rfl)) pa_nil)))
      (pss_cons (ps_setLc (i := 5) (own := [("entry", 9)]) (g := gName 9) (by rfl) sc_clearedS.nd rfl rfl (sw_true rfl rfl rfl (by decide +kernel)) (pi_list (pv 5)) (blkOk_by (own := [("entry", 9)]) (N := sn_clearedS) (sc := defScope s_clearedS) (by decide +kernel)) (fun _ _ _ _ _ => (pg_name (i := 9) sc_clearedS.nd rfl (by first | exact Or.inl rfl | exact Or.inr rfl))) (fun _ _ _ _ _ => pts_nil) (fun _ _ _ _ _ => (pe_op (op_bin h_Fmul T.o_Fmul.at_ T.o_Fmul.fn T.f_F hr (by decide)) (pv 6) (pv 9))))
      (pss_cons (ps_set (i := 7) sc_clearedS.nd rfl (Or.inl rfl) (pe_lst pa_nil))
      (pss_cons (ps_for PassesOwn.never rfl (pi_range1 rfl T.n_range (pa_cons (pe_callB call_len_seq (by rfl) T.n_len PySem.boot_len (pa_cons (pv 4) pa_nil)) pa_nil)) (pg_name (i := 8) sc_clearedS.nd rfl (Or.inl rfl)) (pss_one (ps_if (pt_cmpR op_eq (pv 8) (pv 1) (nomark _)) (pss_one (ps_expr (pe_bm PySem.F.plainAttrs_list PySem.F.slot_list_append PySem.F.type_list_append mt_append (pv 7) (pa_cons (pv 5) pa_nil)))) (pss_one (ps_expr (pe_bm PySem.F.plainAttrs_list PySem.F.slot_list_append PySem.F.type_list_append mt_append (pv 7) (pa_cons (pe_callP h_without hr (by decide) rfl T.g_without (pa_cons (pe_ix ix_list (pv 4) (pv 8) (fun _ _ => rfl)) (pa_cons (pe_ix ix_list (pe_ix ix_list (pv 4) (pv 8) (fun _ _ => rfl)) (pv 3) (fun _ _ => rfl)) (pa_cons (pv 5) pa_nil)))) pa_nil)))))))
      (pss_one (ps_ret (pv 7)))))))))), fun i hy F0 H0 Q q => ?_⟩⟩
  obtain ⟨t, rank, place, c⟩ := i
  replace hy : ∃ a n m, TF a n m t ∧ rank < n ∧ place < n ∧ c < m ∧ (mGet t place c).num ≠ 0 ∧ 4 * a + 5 < 130000000 ∧ n ≤ 100000 ∧ m ≤ 100000 := hy
  change SJ F0 H0 _ (ctx [RMX K t, RI (rank : Int), RI (place : Int), RI (c : Int)] _) _
  obtain ⟨a, n, m, ht, h1, h2, h3, h0, hs, hn, hm⟩ := hy
  have hl := ht.1
  have hrow := fun i (hi : i < n) => ht.row hi
  have hp := clPiv_sz ht h2 h0
  have hset := tf_set ht place (ht.row h1)
  refine q_asgO (eo_listL (ev_var rfl)) ?_
  refine q_asg (ev_ixO (n := place) (R := RFL K (t.getD place [])) rfl (ev_var rfl) (get_map [] (by omega))) ?_
  refine q_setO (n := place) (R := RFL K (t.getD rank [])) rfl (ev_ixO (n := rank) rfl (ev_var rfl) (get_map [] (by omega))) (ev_var rfl) (by rw [List.length_map]; omega) ?_
  refine q_asg (ev_Fover (ev_F1 ev_c) (ev_ixF (ev_var rfl) (ev_var rfl) (by rw [(hrow place h2).1]; exact h3)) szf_f1 (szf_getD (hrow place h2).2 c) (by omega) h0) ?_
  refine q_asg (EO.ev (eo_lcL (Rs := (clPiv t place c).map (RF K)) (ev_var rfl) (by unfold clPiv; rw [List.length_map, List.length_map, List.length_map]) (by rw [List.length_map, hp.1]; omega) (fun T hT => cond_mov rfl rfl hT) fun i S R hS hR => ?_)) ?_
  · obtain ⟨hi, rfl⟩ := map_get f0 hS
    unfold clPiv at hR
    rw [List.map_map] at hR
    obtain ⟨_, rfl⟩ := map_get (f := RF K ∘ fun e => fMul (fOver f1 ((t.getD place []).getD c f0)) e) f0 hR
    exact ev_Fmul (ev_var rfl) (ev_var rfl) (sz_fOver szf_f1 (szf_getD (hrow place h2).2 c) h0) (szf_getD (hrow place h2).2 i) (by omega)
  refine q_asgO (eo_lst ea_nil (by simp)) ?_
  have e1 : (t.map (RFL K)).set place (RFL K (t.getD rank [])) = (t.set place (t.getD rank [])).map (RFL K) := map_set'
  rw [e1]
  refine q_for1 (n := (t.length : Int)) (ea1 (ev_i (ev_lenMO rfl) (by rw [List.length_set]))) (by omega) (by omega) (fun i => [.fz (RMX K t), .fz (RI (rank : Int)), .fz (RI (place : Int)), .fz (RI (c : Int)), .own ((t.set place (t.getD rank [])).map (RFL K)), .fz (RFL K (clPiv t place c)), .fz (RF K (fOver f1 ((t.getD place []).getD c f0))), .own (((List.range i).map fun i => clRow t rank place c i).map (RFL K)), .any, .any]) ⟨.inr rfl, .inr rfl, .inr rfl, .inr rfl, .inr rfl, .inr rfl, .inr rfl, .inr rfl, .inl rfl, .inl rfl, trivial⟩ (fun i hi => ?_) ?_
  · have hi' : i < n := by omega
    have e2 : (((List.range (i + 1)).map fun i => clRow t rank place c i).map (RFL K)) = ((List.range i).map fun i => clRow t rank place c i).map (RFL K) ++ [RFL K (clRow t rank place c i)] := by
      rw [List.range_succ, List.map_append, List.map_append]
      rfl
    refine sj_if (et_eqI (ev_var rfl) (ev_var rfl)) (fun hb => ?_) fun hb => ?_
    · have hir : i = rank := by have := of_decide_eq_true hb; omega
      refine sj_app rfl (ev_var rfl) (by rw [List.length_map, List.length_map, List.length_range]; omega) (nx_sub ⟨.inr rfl, .inr rfl, .inr rfl, .inr rfl, .inr rfl, .inr rfl, .inr rfl, .inr ?_, .inl rfl, .inl rfl, trivial⟩)
      rw [e2]
      unfold clRow
      rw [if_pos hir]
    · have hir : ¬ i = rank := by have := of_decide_eq_false hb; omega
      have g1 := hset.row hi'
      have g2 := hset.get i c
      refine sj_app rfl (ev_call (ea_cons (ev_ixO (n := i) (R := RFL K ((t.set place (t.getD rank [])).getD i [])) rfl (ev_var rfl) (get_map [] (by rw [List.length_set]; omega))) (ea2 (ev_ixF (ev_ixO (n := i) (R := RFL K ((t.set place (t.getD rank [])).getD i [])) rfl (ev_var rfl) (get_map [] (by rw [List.length_set]; omega))) (ev_var rfl) (by rw [g1.1]; exact h3)) (ev_var rfl))) (us_without (_, _, _) ⟨a, 2 * a + 2, g1.2, g2, hp.2, by omega, ?_, ?_⟩)) (by rw [List.length_map, List.length_map, List.length_range]; omega) (nx_sub ⟨.inr rfl, .inr rfl, .inr rfl, .inr rfl, .inr rfl, .inr rfl, .inr rfl, .inr ?_, .inl rfl, .inl rfl, trivial⟩)
      · show ((t.set place (t.getD rank [])).getD i []).length ≤ (clPiv t place c).length
        rw [g1.1, hp.1]; exact Nat.le_refl _
      · show ((t.set place (t.getD rank [])).getD i []).length ≤ 100000
        rw [g1.1]; exact hm
      · rw [e2]
        unfold clRow
        rw [if_neg hir]
        rfl
  · rw [Int.toNat_natCast]
    refine sj_freeze (i := 7) rfl ?_
    exact sj_ret (ev_var rfl) q
abbrev Pr_clearedS (P : Program) (w : World) (K : Frag) (mg : Str → Option Value) (base : Heap) : Prop := Pr P w K mg base 45 (ga K "cleared_systems") ["table", "rank", "place", "column"] [] (sp_clearedS K)
theorem ok_clearedS (N : En P K mg base) : Pr_clearedS P w K mg base := by
  obtain ⟨fd, F, h⟩ := fn_clearedS (w := w) N
  exact pr_mk F h (F.bindsN fun _ _ _ _ _ _ us hl => match us, hl with | [_, _, _, _], _ => rfl)
abbrev sn_reduced : List Str := ["rows", "width", "unit", "table", "pivots", "column", "place", "index"]
theorem sc_reduced : FnScope sn_reduced ["rows", "width"] (defScope s_reduced) := ⟨rfl, rfl, rfl, by decide +kernel, rfl, by decide +kernel, by decide +kernel⟩
abbrev sp_reduced (K : Frag) : Sp := SpG (ι := Mx × Nat) (fun p => ∃ a n, TF a n p.2 p.1 ∧ bk a p.2 < 130000000 ∧ n ≤ 1000 ∧ p.2 ≤ 1000) (fun p => [RMX K p.1, RI (p.2 : Int)]) (fun p => RT [RMX K (redN p.1 p.2).t, RL ((redN p.1 p.2).p.map RNI)])
theorem us_reduced {K : Frag} (i : Mx × Nat) (h : (fun p => ∃ a n, TF a n p.2 p.1 ∧ bk a p.2 < 130000000 ∧ n ≤ 1000 ∧ p.2 ≤ 1000) i) : ∀ vs H Q E, SpF ((fun p => [RMX K p.1, RI (p.2 : Int)]) i) ((fun p => RT [RMX K (redN p.1 p.2).t, RL ((redN p.1 p.2).p.map RNI)]) i) vs H Q E → sp_reduced K vs H Q E := fun _ _ _ _ q => ⟨i, h, q⟩
abbrev Fn_reduced (P : Program) (w : World) (K : Frag) (mg : Str → Option Value) (base : Heap) : Prop := ∃ fd, DefF K "reduced" "reduced" s_reduced [] [] (ga K "reduced") fd ∧ FnOk P w K mg base CX0 46 (ga K "reduced") fd ["rows", "width"] (sp_reduced K)
theorem fn_reduced (N : En P K mg base) : Fn_reduced P w K mg base := by
  have h_identity := ok_identity (w := w) N
  have h_ppS := ok_ppS (w := w) N
  have h_clearedS := ok_clearedS (w := w) N
  obtain ⟨T, S, ns, tr⟩ := N
  obtain ⟨fd, F⟩ := S.def_ 54
  refine ⟨fd, F, def_ok F sc_reduced (fun _ => rfl) fun cdv A' outer s H E hr => ⟨_, (pss_cons (ps_set (i := 2) sc_reduced.nd rfl (Or.inr rfl) (pe_callP h_identity hr (by decide) rfl T.g_identity (pa_cons (pe_callB call_len_seq (by rfl) T.n_len PySem.boot_len (pa_cons (pv 0) pa_nil)) pa_nil)))
      (pss_cons (ps_setLc (i := 3) (own := [("index", 7)]) (g := gName 7) (by rfl) sc_reduced.nd rfl rfl (sw_true rfl rfl rfl (by decide +kernel)) (pi_range1 rfl T.n_range (pa_cons (pe_callB (call_len_seqK K rfl) (by rfl) T.n_len PySem.boot_len (pa_cons (pv 0) pa_nil)) pa_nil)) (blkOk_by (own := [("index", 7)]) (N := sn_reduced) (sc := defScope s_reduced) (by decide +kernel)) (fun _ _ _ _ _ => (pg_name (i := 7) sc_reduced.nd rfl (by first | exact Or.inl rfl | exact Or.inr rfl))) (fun _ _ _ _ _ => pts_nil) (fun _ _ _ _ _ => (pe_op op_cat (pe_callTy (call_list_ofK K rfl) (by rfl) T.n_list bt_list (pa_cons (pe_ix (ix_listK K rfl) (pv 0) (pv 7) (fun _ _ => rfl)) pa_nil)) (pe_ix (ix_listK K rfl) (pv 2) (pv 7) (fun _ _ => rfl)))))
      (pss_cons (ps_set (i := 4) sc_reduced.nd rfl (Or.inl rfl) (pe_lst pa_nil))
      (pss_cons (ps_for PassesOwn.never rfl (pi_range1 rfl T.n_range (pa_cons (pv 1) pa_nil)) (pg_name (i := 5) sc_reduced.nd rfl (Or.inl rfl)) (pss_cons (ps_set (i := 6) sc_reduced.nd rfl (Or.inl rfl) (pe_callP h_ppS hr (by decide) rfl T.g_ppS (pa_cons (pv 3) (pa_cons (pe_callB call_len_seq (by rfl) T.n_len PySem.boot_len (pa_cons (pv 4) pa_nil)) (pa_cons (pv 5) pa_nil)))))
      (pss_one (ps_if (pt_cmpR op_notN (pv 6) pe_non (nomark _)) (pss_cons (ps_set (i := 3) sc_reduced.nd rfl (Or.inl rfl) (pe_callP h_clearedS hr (by decide) rfl T.g_clearedS (pa_cons (pv 3) (pa_cons (pe_callB call_len_seq (by rfl) T.n_len PySem.boot_len (pa_cons (pv 4) pa_nil)) (pa_cons (pv 6) (pa_cons (pv 5) pa_nil))))))
      (pss_one (ps_expr (pe_bm PySem.F.plainAttrs_list PySem.F.slot_list_append PySem.F.type_list_append mt_append (pv 4) (pa_cons (pv 5) pa_nil))))) pss_nil))))
      (pss_one (ps_ret (pe_tup (pa_cons (pv 3) (pa_cons (pv 4) pa_nil))))))))), fun i hy F0 H0 Q q => ?_⟩⟩
  obtain ⟨rows, w⟩ := i
  replace hy : ∃ a n, TF a n w rows ∧ bk a w < 130000000 ∧ n ≤ 1000 ∧ w ≤ 1000 := hy
  change SJ F0 H0 _ (ctx [RMX K rows, RI (w : Int)] _) _
  obtain ⟨a, n, ht, hs, hn, hw⟩ := hy
  have hl := ht.1
  have hi0 := tf_iden n
  refine q_asg (ev_call (ea1 (ev_lenM (ev_var rfl))) (us_identity rows.length (by omega))) ?_
  refine q_asg (EO.ev (eo_lc1 (n := (rows.length : Int)) (Rs := (red0 rows).t.map (RFL K)) (ea1 (ev_lenM (ev_var rfl))) (by omega) (by unfold red0; rw [List.length_map, List.length_map, List.length_range]; omega) (by omega) (fun T hT => cond_mov rfl rfl hT) fun i R hR => ?_)) ?_
  · have hR' : (((List.range rows.length).map fun i => rows.getD i [] ++ (mIden rows.length).getD i []).map (RFL K))[i]? = some R := hR
    obtain ⟨hi, rfl⟩ := range_map hR'
    have g1 := ht.row (show i < n by omega)
    have g2 := hi0.row (show i < n by omega)
    have hil : (mIden rows.length).length = rows.length := by unfold mIden; rw [List.length_map, List.length_range]
    refine ev_r (EO.ev (eo_catF (EO.ev (eo_listL (ev_ixM (ev_var rfl) (ev_var rfl) hi))) (ev_ixM (ev_var rfl) (ev_var rfl) (by rw [hil]; exact hi)) ?_)) ?_
    · rw [List.length_map, List.length_map, g1.1, hl, g2.1]; omega
    · rw [← List.map_append]
  refine q_asgO (eo_lst ea_nil (by simp)) ?_
  refine q_for1 (n := (w : Int)) (ea1 (ev_var rfl)) (by omega) (by omega) (fun c => [.fz (RMX K rows), .fz (RI (w : Int)), .fz (RMX K (mIden rows.length)), .fz (RMX K (redN rows c).t), .own ((redN rows c).p.map RNI), .any, .any, .any]) ⟨.inr rfl, .inr rfl, .inr rfl, .inr rfl, .inr rfl, .inl rfl, .inl rfl, .inl rfl, trivial⟩ (fun c hc => ?_) ?_
  · have hc' : c < w := by omega
    have ho := redN_ok ht c
    have hpc := ho.pc
    have hpl := ho.pl
    have htl := ho.tf.1
    have es : redN rows (c + 1) = redStep c (redN rows c) := rfl
    refine q_asg (R := ROpt (ppS (redN rows c).t (redN rows c).p.length c)) (ev_call (ea_cons (ev_var rfl) (ea2 (ev_lenMO rfl) (ev_var rfl))) (us_ppS ((redN rows c).t, (redN rows c).p.length, c) ⟨fun i hi => ?_, by show (redN rows c).p.length ≤ (redN rows c).t.length; omega, by show (redN rows c).t.length ≤ _; omega⟩)) ?_
    · show c < ((redN rows c).t.getD i []).length
      have hi' : i < (redN rows c).t.length := hi
      rw [(ho.tf.row (show i < n by omega)).1]; omega
    cases e : ppS (redN rows c).t (redN rows c).p.length c with
    | none =>
      have e2 : redN rows (c + 1) = redN rows c := by rw [es]; unfold redStep; rw [e]
      refine sj_if (b := false) (et_test (ev_opK (z := .bl false) (ev_var (R := ROpt none) rfl) ev_c fun H Q q => ⟨rfl, q⟩)) (fun hb => by cases hb) fun _ => sj_next ?_
      rw [e2]
      exact nx_sub ⟨.inr rfl, .inr rfl, .inr rfl, .inr rfl, .inr rfl, .inl rfl, .inl rfl, .inl rfl, trivial⟩
    | some pl =>
      obtain ⟨g1, g2, g3⟩ := ppS_some e
      have e2 : redN rows (c + 1) = ⟨clS (redN rows c).t (redN rows c).p.length pl c, (redN rows c).p ++ [c]⟩ := by rw [es]; unfold redStep; rw [e]
      have hbk : bk a (c + 1) ≤ bk a w := bk_mono a (by omega)
      have hbs := bk_succ a c
      refine sj_if (b := true) (et_test (ev_opK (z := .bl true) (ev_var (R := ROpt (some pl)) rfl) ev_c fun H Q q => ⟨rfl, q⟩)) (fun _ => ?_) (fun hb => by cases hb)
      refine q_asg (ev_call (ea_cons (ev_var rfl) (ea_cons (ev_lenMO rfl) (ea2 (ev_var rfl) (ev_var rfl)))) (us_clearedS ((redN rows c).t, (redN rows c).p.length, pl, c) ⟨bk a c, n, w + n, ho.tf, by show (redN rows c).p.length < n; omega, by show pl < n; omega, by show c < w + n; omega, g3, by omega, by omega, by omega⟩)) ?_
      refine sj_app rfl (ev_var rfl) (by rw [List.length_map]; omega) ?_
      rw [e2]
      refine nx_sub ⟨.inr rfl, .inr rfl, .inr rfl, .inr rfl, .inr ?_, .inl rfl, .inl rfl, .inl rfl, trivial⟩
      rw [List.map_append]
      rfl
  · rw [Int.toNat_natCast]
    refine sj_freeze (i := 4) rfl ?_
    exact sj_ret (ev_tup (ea2 (ev_var rfl) (ev_var rfl)) (by simp)) q
abbrev Pr_reduced (P : Program) (w : World) (K : Frag) (mg : Str → Option Value) (base : Heap) : Prop := Pr P w K mg base 46 (ga K "reduced") ["rows", "width"] [] (sp_reduced K)
theorem ok_reduced (N : En P K mg base) : Pr_reduced P w K mg base := by
  obtain ⟨fd, F, h⟩ := fn_reduced (w := w) N
  exact pr_mk F h (F.bindsN fun _ _ _ _ _ _ us hl => match us, hl with | [_, _], _ => rfl)
abbrev sn_ffree : List Str := ["pivots", "width", "column"]
theorem sc_ffree : FnScope sn_ffree ["pivots", "width"] (defScope s_ffree) := ⟨rfl, rfl, rfl, by decide +kernel, rfl, by decide +kernel, by decide +kernel⟩
abbrev sp_ffree (K : Frag) : Sp := SpG (ι := List Nat × Nat) (fun p => p.2 ≤ 1000) (fun p => [RL (p.1.map RNI), RI (p.2 : Int)]) (fun p => ROpt (ffree p.1 p.2))
theorem us_ffree {K : Frag} (i : List Nat × Nat) (h : (fun p => p.2 ≤ 1000) i) : ∀ vs H Q E, SpF ((fun p => [RL (p.1.map RNI), RI (p.2 : Int)]) i) ((fun p => ROpt (ffree p.1 p.2)) i) vs H Q E → sp_ffree K vs H Q E := fun _ _ _ _ q => ⟨i, h, q⟩
abbrev Fn_ffree (P : Program) (w : World) (K : Frag) (mg : Str → Option Value) (base : Heap) : Prop := ∃ fd, DefF K "first_free" "first_free" s_ffree [] [] (ga K "first_free") fd ∧ FnOk P w K mg base CX0 41 (ga K "first_free") fd ["pivots", "width"] (sp_ffree K)
theorem fn_ffree (N : En P K mg base) : Fn_ffree P w K mg base := by
  obtain ⟨T, S, ns, tr⟩ := N
  obtain ⟨fd, F⟩ := S.def_ 55
  refine ⟨fd, F, def_ok F sc_ffree (fun _ => rfl) fun cdv A' outer s H E hr => ⟨_, (pss_cons (ps_for PassesOwn.never rfl (pi_range1 rfl T.n_range (pa_cons (pv 1) pa_nil)) (pg_name (i := 2) sc_ffree.nd rfl (Or.inl rfl)) (pss_one (ps_if (pt_cmpR op_notIn_seq (pv 2) (pv 0) (by rfl)) (pss_one (ps_ret (pv 2))) pss_nil)))
      (pss_one (ps_ret pe_non))), fun i hy F0 H0 Q q => ?_⟩⟩
  obtain ⟨l, w⟩ := i
  replace hy : w ≤ 1000 := hy
  change SJ F0 H0 _ (ctx [RL (l.map RNI), RI (w : Int)] _) _
  exact q_first1 (n := w) (p := fun c => !l.contains c) (ea1 (ev_var rfl)) (by omega) (by decide) (Nat.succ_pos _) rfl (fun i hi => et_test (ev_notIn (ev_var rfl) (ev_var rfl))) q
abbrev Pr_ffree (P : Program) (w : World) (K : Frag) (mg : Str → Option Value) (base : Heap) : Prop := Pr P w K mg base 41 (ga K "first_free") ["pivots", "width"] [] (sp_ffree K)
theorem ok_ffree (N : En P K mg base) : Pr_ffree P w K mg base := by
  obtain ⟨fd, F, h⟩ := fn_ffree (w := w) N
  exact pr_mk F h (F.bindsN fun _ _ _ _ _ _ us hl => match us, hl with | [_, _], _ => rfl)
abbrev sn_kernel : List Str := ["rows", "width", "table", "pivots", "free", "index", "vector", "_"]
theorem sc_kernel : FnScope sn_kernel ["rows", "width"] (defScope s_kernel) := ⟨rfl, rfl, rfl, by decide +kernel, rfl, by decide +kernel, by decide +kernel⟩
abbrev sp_kernel (K : Frag) : Sp := SpG (ι := Mx × Nat) (fun p => ∃ a n, TF a n p.2 p.1 ∧ bk a p.2 < 130000000 ∧ n ≤ 1000 ∧ p.2 ≤ n) (fun p => [RMX K p.1, RI (p.2 : Int)]) (fun p => RKA K (kernelM p.1 p.2))
theorem us_kernel {K : Frag} (i : Mx × Nat) (h : (fun p => ∃ a n, TF a n p.2 p.1 ∧ bk a p.2 < 130000000 ∧ n ≤ 1000 ∧ p.2 ≤ n) i) : ∀ vs H Q E, SpF ((fun p => [RMX K p.1, RI (p.2 : Int)]) i) ((fun p => RKA K (kernelM p.1 p.2)) i) vs H Q E → sp_kernel K vs H Q E := fun _ _ _ _ q => ⟨i, h, q⟩
abbrev Fn_kernel (P : Program) (w : World) (K : Frag) (mg : Str → Option Value) (base : Heap) : Prop := ∃ fd, DefF K "kernel" "kernel" s_kernel [] [] (ga K "kernel") fd ∧ FnOk P w K mg base CX0 47 (ga K "kernel") fd ["rows", "width"] (sp_kernel K)
theorem fn_kernel (N : En P K mg base) : Fn_kernel P w K mg base := by
  have h_reduced := ok_reduced (w := w) N
  have h_ffree := ok_ffree (w := w) N
  have h_Fi := ok_Fi (w := w) N
  have h_Fi1 := ok_Fi1 (w := w) N
  have h_Fneg := ok_Fneg (w := w) N
  obtain ⟨T, S, ns, tr⟩ := N
  obtain ⟨fd, F⟩ := S.def_ 56
  refine ⟨fd, F, def_ok F sc_kernel (fun _ => rfl) fun cdv A' outer s H E hr => ⟨_, (pss_cons (ps_asg (pe_callP h_reduced hr (by decide) rfl T.g_reduced (pa_cons (pv 0) (pa_cons (pv 1) pa_nil))) (pg_tup rfl (pgs_cons (pg_name (i := 2) sc_kernel.nd rfl (Or.inr rfl)) (pgs_cons (pg_name (i := 3) sc_kernel.nd rfl (Or.inl rfl)) pgs_nil))))
      (pss_cons (ps_set (i := 4) sc_kernel.nd rfl (Or.inl rfl) (pe_callP h_ffree hr (by decide) rfl T.g_ffree (pa_cons (pv 3) (pa_cons (pv 1) pa_nil))))
      (pss_cons (ps_if (pt_cmpR op_isN (pv 4) pe_non (nomark _)) (pss_one (ps_ret (pe_tup (pa_cons pe_str (pa_cons (pe_lc (own := [("index", 5)]) (g := gName 5) (by rfl) sc_kernel.nd (pi_range1 rfl T.n_range (pa_cons (pv 1) pa_nil)) (blkOk_by (own := [("index", 5)]) (N := sn_kernel) (sc := defScope s_kernel) (by decide +kernel)) (fun _ _ _ _ _ => (pg_name (i := 5) sc_kernel.nd rfl (by first | exact Or.inl rfl | exact Or.inr rfl))) (fun _ _ _ _ _ => pts_nil) (fun _ _ _ _ _ => (pe_slice (sl_listK K rfl) (pe_ix (ix_listK K rfl) (pv 2) (pv 5) (fun _ _ => rfl)) (po_some (pv 1)) po_none))) pa_nil))))) pss_nil)
      (pss_cons (ps_setLc (i := 6) (own := [("_", 7)]) (g := gName 7) (by rfl) sc_kernel.nd rfl rfl (sw_true rfl rfl rfl (by decide +kernel)) (pi_range1 rfl T.n_range (pa_cons (pv 1) pa_nil)) (blkOk_by (own := [("_", 7)]) (N := sn_kernel) (sc := defScope s_kernel) (by decide +kernel)) (fun _ _ _ _ _ => (pg_name (i := 7) sc_kernel.nd rfl (by first | exact Or.inl rfl | exact Or.inr rfl))) (fun _ _ _ _ _ => pts_nil) (fun _ _ _ _ _ => (pe_makeP h_Fi1 hr (by decide) T.mk_F rfl T.g_F (pa_cons pe_int pa_nil))))
      (pss_cons (ps_asg (pe_makeP h_Fi1 hr (by decide) T.mk_F rfl T.g_F (pa_cons pe_int pa_nil)) (pg_sub (pv 6) (pv 4) set_list))
      (pss_cons (ps_for PassesOwn.never rfl (pi_range1 rfl T.n_range (pa_cons (pe_callB call_len_seq (by rfl) T.n_len PySem.boot_len (pa_cons (pv 3) pa_nil)) pa_nil)) (pg_name (i := 5) sc_kernel.nd rfl (Or.inl rfl)) (pss_one (ps_asg (pe_un (un_negOwn h_Fneg T.o_Fneg.at_ T.o_Fneg.fn hr (by decide)) (pe_ix ix_list (pe_ix ix_list (pv 2) (pv 5) (fun _ _ => rfl)) (pv 4) (fun _ _ => rfl))) (pg_sub (pv 6) (pe_ix ix_list (pv 3) (pv 5) (fun _ _ => rfl)) set_list))))
      (pss_one (ps_ret (pe_tup (pa_cons pe_str (pa_cons (pv 6) pa_nil))))))))))), fun i hy F0 H0 Q q => ?_⟩⟩
  obtain ⟨rows, w⟩ := i
  replace hy : ∃ a n, TF a n w rows ∧ bk a w < 130000000 ∧ n ≤ 1000 ∧ w ≤ n := hy
  change SJ F0 H0 _ (ctx [RMX K rows, RI (w : Int)] _) _
  obtain ⟨a, n, ht, hs, hn, hw⟩ := hy
  have ho := redN_ok ht w
  have htl := ho.tf.1
  have hpl := ho.pl
  refine q_pair (Ra := RMX K (redN rows w).t) (Rb := RL ((redN rows w).p.map RNI)) (ev_call (ea2 (ev_var rfl) (ev_var rfl)) (us_reduced (rows, w) ⟨a, n, ht, hs, hn, by show w ≤ 1000; omega⟩)) ?_
  refine q_asg (R := ROpt (ffree (redN rows w).p w)) (ev_call (ea2 (ev_var rfl) (ev_var rfl)) (us_ffree ((redN rows w).p, w) (by show w ≤ 1000; omega))) ?_
  cases e : ffree (redN rows w).p w with
  | none =>
    refine q_when (b := true) (et_test (ev_opK (z := .bl true) (ev_var (R := ROpt none) rfl) ev_c fun H Q q => ⟨rfl, q⟩)) (fun _ => ?_) (fun hb => by cases hb)
    refine sj_ret (ev_r (ev_tup (ea2 ev_c (EO.ev (eo_lc1 (n := (w : Int)) (Rs := ((List.range w).map fun i => ((redN rows w).t.getD i []).drop w).map (RFL K)) (ea1 (ev_var rfl)) (by omega) (by rw [List.length_map, List.length_map, List.length_range]; omega) (by omega) (fun T hT => cond_mov rfl rfl hT) fun i R hR => ?_))) (by simp)) ?_) q
    · obtain ⟨hi, rfl⟩ := range_map hR
      have g1 := ho.tf.row (show i < n by omega)
      refine ev_r (EO.ev (eo_slice (ev_ixM (ev_var rfl) (ev_var rfl) (by omega)) (ep_some (ev_var rfl)) ep_none)) ?_
      rw [List.length_map, HT.sIx_none, HT.sIx_nat, Nat.min_eq_left (by rw [g1.1]; omega), ← List.map_drop, ← List.map_take]
      congr 2
      rw [List.take_of_length_le (by rw [List.length_drop]; exact Nat.le_refl _)]
    · show RKA K (.inv _) = RKA K (kernelM rows w)
      unfold kernelM
      rw [e]
  | some f =>
    have hf := firstN_some e
    refine q_skip (et_test (ev_opK (z := .bl false) (ev_var (R := ROpt (some f)) rfl) ev_c fun H Q q => ⟨rfl, q⟩)) ?_
    refine q_asgO (eo_lc1 (n := (w : Int)) (Rs := (List.replicate w f0).map (RF K)) (ea1 (ev_var rfl)) (by omega) (by rw [List.length_map, List.length_replicate]; omega) (by omega) (fun T hT => cond_mov rfl rfl hT) fun n R hR => ?_) ?_
    · rw [List.map_replicate] at hR
      rw [List.eq_of_mem_replicate (List.mem_of_getElem? hR)]
      exact ev_F1 ev_c
    refine q_setO (n := f) rfl (ev_F1 ev_c) (ev_var (R := ROpt (some f)) rfl) (by rw [List.length_map, List.length_replicate]; omega) ?_
    have e1 : ((List.replicate w f0).map (RF K)).set f (RF K (mkF 1 1)) = ((List.replicate w f0).set f f1).map (RF K) := map_set'
    rw [e1]
    refine q_for1 (n := ((redN rows w).p.length : Int)) (ea1 (ev_lenM (ev_var rfl))) (by omega) (by omega) (fun i => [.fz (RMX K rows), .fz (RI (w : Int)), .fz (RMX K (redN rows w).t), .fz (RL ((redN rows w).p.map RNI)), .fz (ROpt (some f)), .any, .own ((kvIn (redN rows w).t (redN rows w).p f i ((List.replicate w f0).set f f1)).map (RF K)), .any]) ⟨.inr rfl, .inr rfl, .inr rfl, .inr rfl, .inr rfl, .inl rfl, .inr rfl, .inl rfl, trivial⟩ (fun i hi => ?_) ?_
    · have hi' : i < (redN rows w).p.length := by omega
      have hpw := ho.pb _ (getD_memL (d := 0) hi')
      have g1 := ho.tf.row (show i < n by omega)
      refine sj_setO (n := (redN rows w).p.getD i 0) rfl (ev_Fneg (ev_ixF (ev_ixM (ev_var rfl) (ev_var rfl) (by omega)) (ev_var (R := ROpt (some f)) rfl) (by rw [g1.1]; omega)) (szf_getD g1.2 f)) (ev_ixN (ev_var rfl) (ev_var rfl) hi') (by rw [List.length_map, kvIn_len, List.length_set, List.length_replicate]; exact hpw) (nx_sub ?_)
      refine ⟨.inr rfl, .inr rfl, .inr rfl, .inr rfl, .inr rfl, .inl rfl, .inr ?_, .inl rfl, trivial⟩
      rw [map_set']
      rfl
    · rw [Int.toNat_natCast]
      refine sj_freeze (i := 6) rfl ?_
      refine sj_ret (ev_r (ev_tup (ea2 ev_c (ev_var rfl)) (by simp)) ?_) q
      show RKA K (.vec _) = RKA K (kernelM rows w)
      unfold kernelM
      rw [e]
abbrev Pr_kernel (P : Program) (w : World) (K : Frag) (mg : Str → Option Value) (base : Heap) : Prop := Pr P w K mg base 47 (ga K "kernel") ["rows", "width"] [] (sp_kernel K)
theorem ok_kernel (N : En P K mg base) : Pr_kernel P w K mg base := by
  obtain ⟨fd, F, h⟩ := fn_kernel (w := w) N
  exact pr_mk F h (F.bindsN fun _ _ _ _ _ _ us hl => match us, hl with | [_, _], _ => rfl)
abbrev sn_rowsat : List Str := ["rows", "n", "row", "entry"]
theorem sc_rowsat : FnScope sn_rowsat ["rows", "n"] (defScope s_rowsat) := ⟨rfl, rfl, rfl, by decide +kernel, rfl, by decide +kernel, by decide +kernel⟩
abbrev sp_rowsat (K : Frag) : Sp := SpG (ι := List (List Po) × Nat) (fun p => ∃ a b L, (∀ r ∈ p.1, r.length ≤ 100000 ∧ ∀ x ∈ r, ZP a L x) ∧ lg (p.2 : Int) ≤ b ∧ a + L * (b + 2) + b < 130000000 ∧ p.1.length ≤ 100000) (fun p => [RPM K p.1, RI (p.2 : Int)]) (fun p => RMX K (ratM p.1 p.2))
theorem us_rowsat {K : Frag} (i : List (List Po) × Nat) (h : (fun p => ∃ a b L, (∀ r ∈ p.1, r.length ≤ 100000 ∧ ∀ x ∈ r, ZP a L x) ∧ lg (p.2 : Int) ≤ b ∧ a + L * (b + 2) + b < 130000000 ∧ p.1.length ≤ 100000) i) : ∀ vs H Q E, SpF ((fun p => [RPM K p.1, RI (p.2 : Int)]) i) ((fun p => RMX K (ratM p.1 p.2)) i) vs H Q E → sp_rowsat K vs H Q E := fun _ _ _ _ q => ⟨i, h, q⟩
abbrev Fn_rowsat (P : Program) (w : World) (K : Frag) (mg : Str → Option Value) (base : Heap) : Prop := ∃ fd, DefF K "rows_at" "rows_at" s_rowsat [] [] (ga K "rows_at") fd ∧ FnOk P w K mg base CX0 44 (ga K "rows_at") fd ["rows", "n"] (sp_rowsat K)
theorem fn_rowsat (N : En P K mg base) : Fn_rowsat P w K mg base := by
  have h_Pat := ok_Pat (w := w) N
  obtain ⟨T, S, ns, tr⟩ := N
  obtain ⟨fd, F⟩ := S.def_ 63
  refine ⟨fd, F, def_ok F sc_rowsat (fun _ => rfl) fun cdv A' outer s H E hr => ⟨_, (pss_one (ps_ret (pe_lc (own := [("row", 2)]) (g := gName 2) (by rfl) sc_rowsat.nd (pi_list (pv 0)) (blkOk_by (own := [("row", 2)]) (N := sn_rowsat) (sc := defScope s_rowsat) (by decide +kernel)) (fun _ _ _ _ _ => (pg_name (i := 2) sc_rowsat.nd rfl (by first | exact Or.inl rfl | exact Or.inr rfl))) (fun _ _ _ _ _ => pts_nil) (fun _ _ _ _ _ => (pe_lc (own := [("entry", 3)]) (g := gName 3) (by rfl) sc_rowsat.nd (pi_listK K rfl (pv 2)) (blkOk_by (own := [("entry", 3)]) (N := sn_rowsat) (by kernel_rfl)) (fun _ _ _ _ _ => (pg_name (i := 3) sc_rowsat.nd rfl (by first | exact Or.inl rfl | exact Or.inr rfl))) (fun _ _ _ _ _ => pts_nil) (fun _ _ _ _ _ => (pe_methP h_Pat hr (by decide) T.c_P T.m_Pat (pv 3) (pa_cons (pv 1) pa_nil)))))))), fun i hy F0 H0 Q q => ?_⟩⟩
  obtain ⟨rows, n⟩ := i
  replace hy : ∃ a b L, (∀ r ∈ rows, r.length ≤ 100000 ∧ ∀ x ∈ r, ZP a L x) ∧ lg (n : Int) ≤ b ∧ a + L * (b + 2) + b < 130000000 ∧ rows.length ≤ 100000 := hy
  change SJ F0 H0 _ (ctx [RPM K rows, RI (n : Int)] _) _
  obtain ⟨a, b, L, h1, h2, h3, h4⟩ := hy
  refine sj_ret (EO.ev (eo_lcL (Rs := (ratM rows n).map (RFL K)) (ev_var rfl) (by unfold ratM; rw [List.length_map, List.length_map, List.length_map]) (by unfold ratM; rw [List.length_map, List.length_map]; omega) (fun T hT => cond_mov rfl rfl hT) fun i S R hS hR => ?_)) q
  obtain ⟨hi, rfl⟩ := map_get [] hS
  unfold ratM at hR
  rw [List.map_map] at hR
  obtain ⟨_, rfl⟩ := map_get (f := RFL K ∘ fun r => r.map fun p => pAt p (n : Int)) [] hR
  obtain ⟨g1, g2⟩ := h1 _ (getD_memL (d := []) hi)
  refine EO.ev (eo_lcL (Rs := ((rows.getD i []).map fun p => pAt p (n : Int)).map (RF K)) (ev_var rfl) (by rw [List.length_map, List.length_map, List.length_map]) (by rw [List.length_map, List.length_map]; omega) (fun T hT => cond_mov rfl rfl hT) fun j S R hS hR => ?_)
  obtain ⟨hj, rfl⟩ := map_get p0 hS
  rw [List.map_map] at hR
  obtain ⟨_, rfl⟩ := map_get (f := RF K ∘ fun p => pAt p (n : Int)) p0 hR
  have g := g2 _ (getD_memL (d := p0) hj)
  refine ev_meth (ev_var rfl) (rn_no (by decide)) (ea1 (ev_var rfl)) (us_Pat ((rows.getD i []).getD j p0, (n : Int)) ⟨a, b, g.1, h2, ?_⟩)
  have := Nat.mul_le_mul_right (b + 2) g.2
  show a + ((rows.getD i []).getD j p0).co.length * (b + 2) + b < 130000000
  omega
abbrev Pr_rowsat (P : Program) (w : World) (K : Frag) (mg : Str → Option Value) (base : Heap) : Prop := Pr P w K mg base 44 (ga K "rows_at") ["rows", "n"] [] (sp_rowsat K)
theorem ok_rowsat (N : En P K mg base) : Pr_rowsat P w K mg base := by
  obtain ⟨fd, F, h⟩ := fn_rowsat (w := w) N
  exact pr_mk F h (F.bindsN fun _ _ _ _ _ _ us hl => match us, hl with | [_, _], _ => rfl)
abbrev sn_invat : List Str := ["rows", "width", "point", "answer"]
theorem sc_invat : FnScope sn_invat ["rows", "width"] (defScope s_invat) := ⟨rfl, rfl, rfl, by decide +kernel, rfl, by decide +kernel, by decide +kernel⟩
abbrev sp_invat (K : Frag) : Sp := SpG (ι := List (List Po) × Nat × Nat × Mx) (fun p => (∃ a b L, (∀ r ∈ p.1, r.length ≤ 100000 ∧ ∀ x ∈ r, ZP a L x) ∧ lg (p.2.2.1 : Int) ≤ b ∧ a + L * (b + 2) + b < 130000000 ∧ p.1.length ≤ 100000) ∧ (∀ i, i ≤ p.2.2.1 → ∃ a n, TF a n p.2.1 (ratM p.1 i) ∧ bk a p.2.1 < 130000000 ∧ n ≤ 1000 ∧ p.2.1 ≤ n) ∧ (∀ i, i < p.2.2.1 → isVec (kernelM (ratM p.1 i) p.2.1) = true) ∧ kernelM (ratM p.1 p.2.2.1) p.2.1 = .inv p.2.2.2) (fun p => [RPM K p.1, RI (p.2.1 : Int)]) (fun p => RT [RK (.str "point"), RI (p.2.2.1 : Int), RMX K p.2.2.2])
theorem us_invat {K : Frag} (i : List (List Po) × Nat × Nat × Mx) (h : (fun p => (∃ a b L, (∀ r ∈ p.1, r.length ≤ 100000 ∧ ∀ x ∈ r, ZP a L x) ∧ lg (p.2.2.1 : Int) ≤ b ∧ a + L * (b + 2) + b < 130000000 ∧ p.1.length ≤ 100000) ∧ (∀ i, i ≤ p.2.2.1 → ∃ a n, TF a n p.2.1 (ratM p.1 i) ∧ bk a p.2.1 < 130000000 ∧ n ≤ 1000 ∧ p.2.1 ≤ n) ∧ (∀ i, i < p.2.2.1 → isVec (kernelM (ratM p.1 i) p.2.1) = true) ∧ kernelM (ratM p.1 p.2.2.1) p.2.1 = .inv p.2.2.2) i) : ∀ vs H Q E, SpF ((fun p => [RPM K p.1, RI (p.2.1 : Int)]) i) ((fun p => RT [RK (.str "point"), RI (p.2.2.1 : Int), RMX K p.2.2.2]) i) vs H Q E → sp_invat K vs H Q E := fun _ _ _ _ q => ⟨i, h, q⟩
abbrev Fn_invat (P : Program) (w : World) (K : Frag) (mg : Str → Option Value) (base : Heap) : Prop := ∃ fd, DefF K "inverse_at_point" "inverse_at_point" s_invat [] [] (ga K "inverse_at_point") fd ∧ FnOk P w K mg base CX0 48 (ga K "inverse_at_point") fd ["rows", "width"] (sp_invat K)
theorem fn_invat (N : En P K mg base) : Fn_invat P w K mg base := by
  have h_kernel := ok_kernel (w := w) N
  have h_rowsat := ok_rowsat (w := w) N
  obtain ⟨T, S, ns, tr⟩ := N
  obtain ⟨fd, F⟩ := S.def_ 64
  refine ⟨fd, F, def_ok F sc_invat (fun _ => rfl) fun cdv A' outer s H E hr => ⟨_, (pss_cons (ps_set (i := 2) sc_invat.nd rfl (Or.inl rfl) pe_int)
      (pss_cons (ps_set (i := 3) sc_invat.nd rfl (Or.inl rfl) (pe_callP h_kernel hr (by decide) rfl T.g_kernel (pa_cons (pe_callP h_rowsat hr (by decide) rfl T.g_rowsat (pa_cons (pv 0) (pa_cons (pv 2) pa_nil))) (pa_cons (pv 1) pa_nil))))
      (pss_cons (ps_while PassesOwn.never (pt_cmpR op_ne (pe_ix ix_tup (pv 3) pe_int (fun _ _ => rfl)) pe_str (nomark _)) (pss_cons (ps_set (i := 2) sc_invat.nd rfl (Or.inl rfl) (pe_op op_add (pv 2) pe_int))
      (pss_one (ps_set (i := 3) sc_invat.nd rfl (Or.inl rfl) (pe_callP h_kernel hr (by decide) rfl T.g_kernel (pa_cons (pe_callP h_rowsat hr (by decide) rfl T.g_rowsat (pa_cons (pv 0) (pa_cons (pv 2) pa_nil))) (pa_cons (pv 1) pa_nil)))))))
      (pss_one (ps_ret (pe_tup (pa_cons pe_str (pa_cons (pv 2) (pa_cons (pe_ix ix_tup (pv 3) pe_int (fun _ _ => rfl)) pa_nil))))))))), fun i hy F0 H0 Q q => ?_⟩⟩
  obtain ⟨rows, w, N, m⟩ := i
  replace hy : (∃ a b L, (∀ r ∈ rows, r.length ≤ 100000 ∧ ∀ x ∈ r, ZP a L x) ∧ lg (N : Int) ≤ b ∧ a + L * (b + 2) + b < 130000000 ∧ rows.length ≤ 100000) ∧ (∀ i, i ≤ N → ∃ a n, TF a n w (ratM rows i) ∧ bk a w < 130000000 ∧ n ≤ 1000 ∧ w ≤ n) ∧ (∀ i, i < N → isVec (kernelM (ratM rows i) w) = true) ∧ kernelM (ratM rows N) w = .inv m := hy
  change SJ F0 H0 _ (ctx [RPM K rows, RI (w : Int)] _) _
  obtain ⟨⟨a, b, L, h1, h2, h3, h4⟩, h5, h6, h7⟩ := hy
  have hra : ∀ i, i ≤ N → ∃ a b L, (∀ r ∈ rows, r.length ≤ 100000 ∧ ∀ x ∈ r, ZP a L x) ∧ lg (i : Int) ≤ b ∧ a + L * (b + 2) + b < 130000000 ∧ rows.length ≤ 100000 := fun i hi => ⟨a, b, L, h1, Nat.le_trans (lg_mono (by omega)) h2, h3, h4⟩
  refine q_asg ev_c ?_
  refine q_asg (ev_call (ea2 (ev_call (ea2 (ev_var rfl) (ev_var rfl)) (us_rowsat (rows, 0) (hra 0 (Nat.zero_le _)))) (ev_var rfl)) (us_kernel (ratM rows 0, w) (h5 0 (Nat.zero_le _)))) ?_
  refine q_while N (fun t => [.fz (RPM K rows), .fz (RI (w : Int)), .fz (RI (t : Int)), .fz (RKA K (kernelM (ratM rows t) w))]) ⟨.inr rfl, .inr rfl, .inr rfl, .inr rfl, trivial⟩ (fun t ht => ?_) (fun t ht => ?_) ?_
  · by_cases hlt : t < N
    · rw [decide_eq_true hlt]
      have g := h6 t hlt
      cases e : kernelM (ratM rows t) w with
      | inv m' => rw [e] at g; cases g
      | vec v =>
        refine et_is (et_test (ev_ne (ev_ixT (n := 0) (Rs := [RK (.str "vector"), RFL K v]) (ev_var rfl) ev_c rfl) ev_c rfl)) (by decide)
    · have e0 : t = N := by omega
      rw [decide_eq_false hlt, e0, h7]
      exact et_is (et_test (ev_ne (ev_ixT (n := 0) (Rs := [RK (.str "inverse"), RMX K m]) (ev_var rfl) ev_c rfl) ev_c rfl)) (by decide)
  · refine q_asg (ev_i (ev_add (ev_var rfl) ev_c) (show (t : Int) + 1 = ((t + 1 : Nat) : Int) by omega)) ?_
    exact sj_asg (ev_call (ea2 (ev_call (ea2 (ev_var rfl) (ev_var rfl)) (us_rowsat (rows, t + 1) (hra (t + 1) ht))) (ev_var rfl)) (us_kernel (ratM rows (t + 1), w) (h5 (t + 1) ht))) (nx_sub ⟨.inr rfl, .inr rfl, .inr rfl, .inr rfl, trivial⟩)
  · rw [h7]
    exact sj_ret (ev_tup (ea_cons ev_c (ea2 (ev_var rfl) (ev_ixT (n := 1) (Rs := [RK (.str "inverse"), RMX K m]) (ev_var rfl) ev_c rfl))) (by simp)) q
abbrev Pr_invat (P : Program) (w : World) (K : Frag) (mg : Str → Option Value) (base : Heap) : Prop := Pr P w K mg base 48 (ga K "inverse_at_point") ["rows", "width"] [] (sp_invat K)
theorem ok_invat (N : En P K mg base) : Pr_invat P w K mg base := by
  obtain ⟨fd, F, h⟩ := fn_invat (w := w) N
  exact pr_mk F h (F.bindsN fun _ _ _ _ _ _ us hl => match us, hl with | [_, _], _ => rfl)
abbrev sn_isleft : List Str := ["inverse", "rows", "width", "row"]
theorem sc_isleft : FnScope sn_isleft ["inverse", "rows", "width"] (defScope s_isleft) := ⟨rfl, rfl, rfl, by decide +kernel, rfl, by decide +kernel, by decide +kernel⟩
abbrev sp_isleft (K : Frag) : Sp := SpG (ι := Mx × Mx × Nat) (fun p => (∃ a b, (∀ i c, SzF b (mGet p.2.1 i c)) ∧ (∀ r ∈ p.1, (∀ f ∈ r, SzF a f) ∧ (r.length + 1) * (a + b + 3) < 130000000 ∧ r.length ≤ p.2.1.length ∧ (∀ i, i < r.length → p.2.2 ≤ (p.2.1.getD i []).length) ∧ r.length ≤ 100000) ∧ p.2.2 ≤ 100000 ∧ p.1.length ≤ 100000) ∧ p.1.length = p.2.2 ∧ (∀ r ∈ p.1, r.length = p.2.1.length) ∧ mMul p.1 p.2.1 p.2.2 = mIden p.2.2) (fun p => [RT (p.1.map fun r => RT (r.map (RF K))), RMX K p.2.1, RI (p.2.2 : Int)]) (fun _ => RB true)
theorem us_isleft {K : Frag} (i : Mx × Mx × Nat) (h : (fun p => (∃ a b, (∀ i c, SzF b (mGet p.2.1 i c)) ∧ (∀ r ∈ p.1, (∀ f ∈ r, SzF a f) ∧ (r.length + 1) * (a + b + 3) < 130000000 ∧ r.length ≤ p.2.1.length ∧ (∀ i, i < r.length → p.2.2 ≤ (p.2.1.getD i []).length) ∧ r.length ≤ 100000) ∧ p.2.2 ≤ 100000 ∧ p.1.length ≤ 100000) ∧ p.1.length = p.2.2 ∧ (∀ r ∈ p.1, r.length = p.2.1.length) ∧ mMul p.1 p.2.1 p.2.2 = mIden p.2.2) i) : ∀ vs H Q E, SpF ((fun p => [RT (p.1.map fun r => RT (r.map (RF K))), RMX K p.2.1, RI (p.2.2 : Int)]) i) ((fun _ => RB true) i) vs H Q E → sp_isleft K vs H Q E := fun _ _ _ _ q => ⟨i, h, q⟩
abbrev Fn_isleft (P : Program) (w : World) (K : Frag) (mg : Str → Option Value) (base : Heap) : Prop := ∃ fd, DefF K "is_left_inverse" "is_left_inverse" s_isleft [] [] (ga K "is_left_inverse") fd ∧ FnOk P w K mg base CX0 46 (ga K "is_left_inverse") fd ["inverse", "rows", "width"] (sp_isleft K)
theorem fn_isleft (N : En P K mg base) : Fn_isleft P w K mg base := by
  have h_multiply := ok_multiply (w := w) N
  have h_identity := ok_identity (w := w) N
  have h_Feq := ok_Feq (w := w) N
  obtain ⟨T, S, ns, tr⟩ := N
  obtain ⟨fd, F⟩ := S.def_ 74
  refine ⟨fd, F, def_ok F sc_isleft (fun _ => rfl) fun cdv A' outer s H E hr => ⟨_, (pss_cons (ps_if (pt_cmpR op_ne (pe_callB call_len_seq (by rfl) T.n_len PySem.boot_len (pa_cons (pv 0) pa_nil)) (pv 2) (nomark _)) (pss_one (ps_ret pe_bl)) pss_nil)
      (pss_cons (ps_for PassesOwn.never rfl (pi_tup (pv 0)) (pg_name (i := 3) sc_isleft.nd rfl (Or.inl rfl)) (pss_one (ps_if (pt_cmpR op_ne (pe_callB call_len_seq (by rfl) T.n_len PySem.boot_len (pa_cons (pv 3) pa_nil)) (pe_callB call_len_seq (by rfl) T.n_len PySem.boot_len (pa_cons (pv 1) pa_nil)) (nomark _)) (pss_one (ps_ret pe_bl)) pss_nil)))
      (pss_one (ps_ret (pe_cmpR (op_eqLL T h_Feq hr (by decide)) (pe_callP h_multiply hr (by decide) rfl T.g_multiply (pa_cons (pe_lc (own := [("row", 3)]) (g := gName 3) (by rfl) sc_isleft.nd (pi_tup (pv 0)) (blkOk_by (own := [("row", 3)]) (N := sn_isleft) (sc := defScope s_isleft) (by decide +kernel)) (fun _ _ _ _ _ => (pg_name (i := 3) sc_isleft.nd rfl (by first | exact Or.inl rfl | exact Or.inr rfl))) (fun _ _ _ _ _ => pts_nil) (fun _ _ _ _ _ => (pe_callTy (call_list_ofK K rfl) (by rfl) T.n_list bt_list (pa_cons (pv 3) pa_nil)))) (pa_cons (pv 1) (pa_cons (pv 2) pa_nil)))) (pe_callP h_identity hr (by decide) rfl T.g_identity (pa_cons (pv 2) pa_nil)) (nomark _)))))), fun i hy F0 H0 Q q => ?_⟩⟩
  obtain ⟨l, rows, w⟩ := i
  replace hy : (∃ a b, (∀ i c, SzF b (mGet rows i c)) ∧ (∀ r ∈ l, (∀ f ∈ r, SzF a f) ∧ (r.length + 1) * (a + b + 3) < 130000000 ∧ r.length ≤ rows.length ∧ (∀ i, i < r.length → w ≤ (rows.getD i []).length) ∧ r.length ≤ 100000) ∧ w ≤ 100000 ∧ l.length ≤ 100000) ∧ l.length = w ∧ (∀ r ∈ l, r.length = rows.length) ∧ mMul l rows w = mIden w := hy
  change SJ F0 H0 _ (ctx [RT (l.map fun r => RT (r.map (RF K))), RMX K rows, RI (w : Int)] _) _
  obtain ⟨h1, h2, h3, h4⟩ := hy
  have hlen : l.length ≤ 100000 := by obtain ⟨_, _, _, _, _, z⟩ := h1; exact z
  have hw : w ≤ 100000 := by omega
  refine q_skip (et_is (et_neI (ev_lenMT (ev_var rfl)) (ev_var rfl)) (by rw [decide_eq_true (by omega)]; rfl)) ?_
  refine q_forT (ev_var rfl) (fun _ => [.fz (RT (l.map fun r => RT (r.map (RF K)))), .fz (RMX K rows), .fz (RI (w : Int)), .any]) ⟨.inr rfl, .inr rfl, .inr rfl, .inl rfl, trivial⟩ (fun Fb u i R hR => ?_) ?_
  · obtain ⟨hi, rfl⟩ := map_get (f := fun r : List Fr => RT (r.map (RF K))) [] hR
    have e := h3 _ (getD_memL (d := []) hi)
    refine sj_if (b := false) (et_is (et_neI (ev_lenMT (ev_var rfl)) (ev_lenM (ev_var rfl))) (by rw [decide_eq_true (by omega)]; rfl)) (fun hb => by cases hb) fun _ => sj_next (nx_sub ⟨.inr rfl, .inr rfl, .inr rfl, .inl rfl, trivial⟩)
  · refine sj_ret (ev_eqMX (m := mIden w) (ev_r (ev_call (ea_cons (EO.ev (eo_lcT (Rs := l.map (RFL K)) (ev_var rfl) (by rw [List.length_map, List.length_map]) (by rw [List.length_map]; omega) (fun T hT => cond_mov rfl rfl hT) fun i S R hS hR => ?_)) (ea2 (ev_var rfl) (ev_var rfl))) (us_multiply (l, rows, w) h1)) ?_) (ev_call (ea1 (ev_var rfl)) (us_identity w hw))) q
    · obtain ⟨hi, rfl⟩ := map_get (f := fun r : List Fr => RT (r.map (RF K))) [] hS
      obtain ⟨_, rfl⟩ := map_get [] hR
      exact EO.ev (eo_listT (ev_var rfl))
    · show RMX K (mMul l rows w) = RMX K (mIden w)
      rw [h4]
abbrev Pr_isleft (P : Program) (w : World) (K : Frag) (mg : Str → Option Value) (base : Heap) : Prop := Pr P w K mg base 46 (ga K "is_left_inverse") ["inverse", "rows", "width"] [] (sp_isleft K)
theorem ok_isleft (N : En P K mg base) : Pr_isleft P w K mg base := by
  obtain ⟨fd, F, h⟩ := fn_isleft (w := w) N
  exact pr_mk F h (F.bindsN fun _ _ _ _ _ _ us hl => match us, hl with | [_, _, _], _ => rfl)
end
end G
end
section
set_option maxRecDepth 100000
set_option maxHeartbeats 4000000
namespace G
open PySem PySem.Spec PyProof.Rows L2 He
open _root_.RT (ItvT iRevA pi_revA)
section
variable {P : Program} {w : World} {K : Frag} {mg : Str → Option Value} {base : Heap}
theorem lg_pow100 {x : Int} (h : x.natAbs < 2 ^ 100) : lg x ≤ 99 := lg_lt h
def RPA (K : Frag) (rows : PM) (w : Nat) : PA → Rp
  | .vec c => RT [RK (.str "vector"), RPL K (kvP (pkN rows c).t c (pkN rows c).last w)]
  | .pt n m => RT [RK (.str "point"), RI (n : Int), RMX K m]
section
variable {Γ : List Ty} {ta tb te : TE} {i j : Int}
theorem ev_lcmI (ha : EV Γ ta (RI i)) (hb : EV Γ tb (RI j)) (h1 : i.natAbs < 2 ^ 100) (h2 : j.natAbs < 2 ^ 100) : EV Γ (tCB rLcm (tCons ta (tCons tb tNil))) (RI (lcmI i j)) := ev_lcm ha hb h1 h2
theorem ev_gcdI (ha : EV Γ ta (RI i)) (hb : EV Γ tb (RI j)) : EV Γ (tCB rGcd (tCons ta (tCons tb tNil))) (RI (gcdI i j)) := ev_gcd ha hb
end
abbrev sn_wrow : List Str := ["row", "multiple", "entry", "divisor", "number", "factor"]
theorem sc_wrow : FnScope sn_wrow ["row"] (defScope s_wrow) := ⟨rfl, rfl, rfl, by decide +kernel, rfl, by decide +kernel, by decide +kernel⟩
abbrev sp_wrow (K : Frag) : Sp := SpG (ι := List Po) (fun l => WOk l) (fun l => [RPL K l]) (fun l => RPL K (wRow l))
theorem us_wrow {K : Frag} (i : List Po) (h : (fun l => WOk l) i) : ∀ vs H Q E, SpF ((fun l => [RPL K l]) i) ((fun l => RPL K (wRow l)) i) vs H Q E → sp_wrow K vs H Q E := fun _ _ _ _ q => ⟨i, h, q⟩
abbrev Fn_wrow (P : Program) (w : World) (K : Frag) (mg : Str → Option Value) (base : Heap) : Prop := ∃ fd, DefF K "whole_row" "whole_row" s_wrow [] [] (ga K "whole_row") fd ∧ FnOk P w K mg base CX0 45 (ga K "whole_row") fd ["row"] (sp_wrow K)
theorem fn_wrow (N : En P K mg base) : Fn_wrow P w K mg base := by
  have h_Fi := ok_Fi (w := w) N
  have h_Pscaled := ok_Pscaled (w := w) N
  obtain ⟨T, S, ns, tr⟩ := N
  obtain ⟨fd, F⟩ := S.def_ 57
  refine ⟨fd, F, def_ok F sc_wrow (fun _ => rfl) fun cdv A' outer s H E hr => ⟨_, (pss_cons (ps_set (i := 1) sc_wrow.nd rfl (Or.inl rfl) pe_int)
      (pss_cons (ps_for PassesOwn.never rfl (pi_list (pv 0)) (pg_name (i := 2) sc_wrow.nd rfl (Or.inl rfl)) (pss_one (ps_set (i := 1) sc_wrow.nd rfl (Or.inl rfl) (pe_callBfun cr_lcm rfl T.b_lcm (pa_cons (pv 1) (pa_cons (pe_fld (pv 2) rfl) pa_nil))))))
      (pss_cons (ps_set (i := 3) sc_wrow.nd rfl (Or.inl rfl) pe_int)
      (pss_cons (ps_for PassesOwn.never rfl (pi_list (pv 0)) (pg_name (i := 2) sc_wrow.nd rfl (Or.inl rfl)) (pss_one (ps_for PassesOwn.never rfl (pi_tup (pe_fld (pv 2) rfl)) (pg_name (i := 4) sc_wrow.nd rfl (Or.inl rfl)) (pss_one (ps_set (i := 3) sc_wrow.nd rfl (Or.inl rfl) (pe_callBfun cr_gcd rfl T.b_gcd (pa_cons (pv 3) (pa_cons (pe_op op_mulB (pv 4) (pe_op (op_fdivP (qu_of ns tr sc_wrow) hr (by decide)) (pv 1) (pe_fld (pv 2) rfl))) pa_nil))))))))
      (pss_cons (ps_if (pt_cmpR op_eq (pv 3) pe_int (nomark _)) (pss_one (ps_ret (pv 0))) pss_nil)
      (pss_cons (ps_set (i := 5) sc_wrow.nd rfl (Or.inr rfl) (pe_makeP h_Fi hr (by decide) T.mk_F rfl T.g_F (pa_cons (pv 1) (pa_cons (pv 3) pa_nil))))
      (pss_one (ps_ret (pe_lc (own := [("entry", 2)]) (g := gName 2) (by rfl) sc_wrow.nd (pi_list (pv 0)) (blkOk_by (own := [("entry", 2)]) (N := sn_wrow) (sc := defScope s_wrow) (by decide +kernel)) (fun _ _ _ _ _ => (pg_name (i := 2) sc_wrow.nd rfl (by first | exact Or.inl rfl | exact Or.inr rfl))) (fun _ _ _ _ _ => pts_nil) (fun _ _ _ _ _ => (pe_methP h_Pscaled hr (by decide) T.c_P T.m_Pscaled (pv 2) (pa_cons (pv 5) pa_nil)))))))))))), fun i hy F0 H0 Q q => ?_⟩⟩
  obtain ⟨l, rfl⟩ : ∃ zz, zz = i := ⟨i, rfl⟩
  replace hy : WOk l := hy
  change SJ F0 H0 _ (ctx [RPL K l] _) _
  obtain ⟨⟨a, h1, hs⟩, hmu, hlen⟩ := hy
  have hden : ∀ i, i < l.length → (l.getD i p0).den ≠ 0 ∧ lg (l.getD i p0).den ≤ 99 ∧ ∀ j, lg ((l.getD i p0).co.getD j 0) ≤ a := fun i hi => by
    have g := (h1 _ (getD_memL (d := p0) hi)).1
    exact ⟨g.1, g.2.1, fun j => lg_getD g.2.2 j⟩
  have hmm := lg_pow100 (hmu l.length (Nat.le_refl _))
  have hpr : ∀ i, i < l.length → ∀ j, lg ((l.getD i p0).co.getD j 0 * (wMult l l.length).fdiv (l.getD i p0).den) ≤ a + 99 + 1 := fun i hi j =>
    lg_mulb ((hden i hi).2.2 j) (Nat.le_trans (lg_fdiv (wMult_dvd l l.length i hi) (hden i hi).1) hmm)
  have hdv : ∀ n, n ≤ l.length → lg (wDivN l (wMult l l.length) n) ≤ a + 99 + 1 := fun n => by
    induction n with
    | zero => intro _; show lg 0 ≤ _; rw [lg_zero]; exact Nat.zero_le _
    | succ n ih => intro h; exact wDivE_lg _ _ (hpr n (by omega)) _ _ (ih (by omega))
  refine q_asg ev_c ?_
  refine q_forL (ev_var rfl) (fun n => [.fz (RPL K l), .fz (RI (wMult l n)), .any, .any, .any, .any]) ⟨.inr rfl, .inr rfl, .inl rfl, .inl rfl, .inl rfl, .inl rfl, trivial⟩ (fun Fb u n R hR => ?_) ?_
  · obtain ⟨hn, rfl⟩ := map_get p0 hR
    exact sj_asg (ev_lcmI (ev_var rfl) (ev_Pd T (ev_var rfl)) (hmu n (by omega)) (lt_of_lg (hden n hn).2.1)) (nx_sub ⟨.inr rfl, .inr rfl, .inl rfl, .inl rfl, .inl rfl, .inl rfl, trivial⟩)
  rw [List.length_map]
  refine q_asg ev_c ?_
  refine q_forL (ev_var rfl) (fun n => [.fz (RPL K l), .fz (RI (wMult l l.length)), .any, .fz (RI (wDivN l (wMult l l.length) n)), .any, .any]) ⟨.inr rfl, .inr rfl, .inl rfl, .inr rfl, .inl rfl, .inl rfl, trivial⟩ (fun Fb u n R hR => ?_) ?_
  · obtain ⟨hn, rfl⟩ := map_get p0 hR
    refine sj_forT (ev_Pc T (ev_var rfl)) (fun j => [.fz (RPL K l), .fz (RI (wMult l l.length)), .fz (RP K (l.getD n p0)), .fz (RI (wDivE (l.getD n p0) (wMult l l.length) (wDivN l (wMult l l.length) n) j)), .any, .any]) ⟨.inr rfl, .inr rfl, .inr rfl, .inr rfl, .inl rfl, .inl rfl, trivial⟩ (fun Fc u2 j R hR => ?_) ?_
    · obtain ⟨hj, rfl⟩ := map_get 0 hR
      have hq := Nat.le_trans (lg_fdiv (wMult_dvd l l.length n hn) (hden n hn).1) hmm
      exact sj_asg (ev_gcdI (ev_var rfl) (ev_mul (ev_var rfl) (ev_fdv (ev_var rfl) (ev_Pd T (ev_var rfl)) (hden n hn).1) (cmul ((hden n hn).2.2 j) hq (by omega)))) (nx_sub ⟨.inr rfl, .inr rfl, .inr rfl, .inr rfl, .inl rfl, .inl rfl, trivial⟩)
    · rw [List.length_map]
      exact nx_sub ⟨.inr rfl, .inr rfl, .inl rfl, .inr rfl, .inl rfl, .inl rfl, trivial⟩
  rw [List.length_map]
  refine q_when (et_eqI (ev_var rfl) ev_c) (fun hb => ?_) fun hb => ?_
  · refine sj_ret (ev_r (ev_var rfl) ?_) q
    have h0 : wDiv l = 0 := of_decide_eq_true hb
    show RPL K l = RPL K (wRow l)
    unfold wRow
    rw [if_pos h0]
  · have h0 : wDiv l ≠ 0 := of_decide_eq_false hb
    have hf : S2F 99 (a + 100) (mkF (wMult l l.length) (wDiv l)) := by
      have g1 : sgnd (gcdI (wMult l l.length) (wDiv l)) (wDiv l) ∣ wMult l l.length := sgnd_dvd.mpr (gcdI_dvd_left _ _)
      have g2 : sgnd (gcdI (wMult l l.length) (wDiv l)) (wDiv l) ∣ wDiv l := sgnd_dvd.mpr (gcdI_dvd_right _ _)
      have g0 : sgnd (gcdI (wMult l l.length) (wDiv l)) (wDiv l) ≠ 0 := sgnd_ne (gcdI_ne h0)
      exact ⟨fdiv_ne g2 h0, Nat.le_trans (lg_fdiv g1 g0) hmm, Nat.le_trans (lg_fdiv g2 g0) (hdv l.length (Nat.le_refl _))⟩
    refine q_asg (ev_make (ea2 (ev_var rfl) (ev_var rfl)) (us_Fi (wMult l l.length, wDiv l) h0)) ?_
    refine sj_ret (ev_r (EO.ev (eo_lcL (Rs := (l.map fun p => pScaled p (mkF (wMult l l.length) (wDiv l))).map (RP K)) (ev_var rfl) (by rw [List.length_map, List.length_map, List.length_map]) (by rw [List.length_map, List.length_map]; omega) (fun T hT => cond_mov rfl rfl hT) fun n S R hS hR => ?_)) ?_) q
    · obtain ⟨hn, rfl⟩ := map_get p0 hS
      rw [List.map_map] at hR
      obtain ⟨_, rfl⟩ := map_get (f := RP K ∘ fun p => pScaled p (mkF (wMult l l.length) (wDiv l))) p0 hR
      have g := h1 _ (getD_memL (d := p0) hn)
      exact ev_meth (ev_var rfl) (rn_no (by decide)) (ea1 (ev_var rfl)) (us_Pscaled (l.getD n p0, _) ⟨a, 99, 99, a + 100, g.1, hf, by omega, by omega, Nat.le_trans g.2 (by decide)⟩)
    · show _ = RPL K (wRow l)
      unfold wRow
      rw [if_neg h0]
abbrev Pr_wrow (P : Program) (w : World) (K : Frag) (mg : Str → Option Value) (base : Heap) : Prop := Pr P w K mg base 45 (ga K "whole_row") ["row"] [] (sp_wrow K)
theorem ok_wrow (N : En P K mg base) : Pr_wrow P w K mg base := by
  obtain ⟨fd, F, h⟩ := fn_wrow (w := w) N
  exact pr_mk F h (F.bindsN fun _ _ _ _ _ _ us hl => match us, hl with | [_], _ => rfl)
abbrev sn_prow : List Str := ["row", "divisor", "entry"]
theorem sc_prow : FnScope sn_prow ["row"] (defScope s_prow) := ⟨rfl, rfl, rfl, by decide +kernel, rfl, by decide +kernel, by decide +kernel⟩
abbrev sp_prow (K : Frag) : Sp := SpG (ι := List Po) (fun l => PRowOk l) (fun l => [RPL K l]) (fun l => RPL K (pRow l))
theorem us_prow {K : Frag} (i : List Po) (h : (fun l => PRowOk l) i) : ∀ vs H Q E, SpF ((fun l => [RPL K l]) i) ((fun l => RPL K (pRow l)) i) vs H Q E → sp_prow K vs H Q E := fun _ _ _ _ q => ⟨i, h, q⟩
abbrev Fn_prow (P : Program) (w : World) (K : Frag) (mg : Str → Option Value) (base : Heap) : Prop := ∃ fd, DefF K "primitive_row" "primitive_row" s_prow [] [] (ga K "primitive_row") fd ∧ FnOk P w K mg base CX0 48 (ga K "primitive_row") fd ["row"] (sp_prow K)
theorem fn_prow (N : En P K mg base) : Fn_prow P w K mg base := by
  have h_cdivof := ok_cdivof (w := w) N
  have h_Pdeg := ok_Pdeg (w := w) N
  have h_exact := ok_exact (w := w) N
  have h_wrow := ok_wrow (w := w) N
  obtain ⟨T, S, ns, tr⟩ := N
  obtain ⟨fd, F⟩ := S.def_ 58
  refine ⟨fd, F, def_ok F sc_prow (fun _ => rfl) fun cdv A' outer s H E hr => ⟨_, (pss_cons (ps_set (i := 1) sc_prow.nd rfl (Or.inr rfl) (pe_callP h_cdivof hr (by decide) rfl T.g_cdivof (pa_cons (pv 0) pa_nil)))
      (pss_cons (ps_if (pt_cmpR op_gt (pe_propP h_Pdeg hr (by decide) T.c_P T.p_Pdeg (pv 1)) pe_int (nomark _)) (pss_one (ps_setLc (i := 0) (own := [("entry", 2)]) (g := gName 2) (by rfl) sc_prow.nd rfl rfl (sw_true rfl rfl rfl (by decide +kernel)) (pi_list (pv 0)) (blkOk_by (own := [("entry", 2)]) (N := sn_prow) (sc := defScope s_prow) (by decide +kernel)) (fun _ _ _ _ _ => (pg_name (i := 2) sc_prow.nd rfl (by first | exact Or.inl rfl | exact Or.inr rfl))) (fun _ _ _ _ _ => pts_nil) (fun _ _ _ _ _ => (pe_callP h_exact hr (by decide) rfl T.g_exact (pa_cons (pv 2) (pa_cons (pv 1) pa_nil)))))) pss_nil)
      (pss_one (ps_ret (pe_callP h_wrow hr (by decide) rfl T.g_wrow (pa_cons (pv 0) pa_nil)))))), fun i hy F0 H0 Q q => ?_⟩⟩
  obtain ⟨l, rfl⟩ : ∃ zz, zz = i := ⟨i, rfl⟩
  replace hy : PRowOk l := hy
  change SJ F0 H0 _ (ctx [RPL K l] _) _
  obtain ⟨hg, hd, hw, hlen⟩ := hy
  refine q_asg (ev_call (ea1 (ev_var rfl)) (us_cdivof l hg)) ?_
  have rest : SJ F0 H0 { nx := fun _ H' => Q .non H', rt := Q } [.fz (RPL K (dRow l)), .fz (RP K (cdivof l)), .any] (tRet (tCall (sp_wrow K) [] E0 (tCons (tVar 0) tNil))) := sj_ret (ev_call (ea1 (ev_var rfl)) (us_wrow (dRow l) hw)) q
  by_cases hb : pDeg (cdivof l) > 0
  · have e : dRow l = l.map fun p => pExact p (cdivof l) := by unfold dRow; rw [if_pos hb]
    rw [e] at rest
    refine q_if (b := true) (et_is (et_I (ev_Pdeg (ev_var rfl)) ev_c) (decide_eq_true hb)) (fun _ => ?_) (fun h => by cases h)
    refine sj_asg (EO.ev (eo_lcL (Rs := (l.map fun p => pExact p (cdivof l)).map (RP K)) (ev_var rfl) (by rw [List.length_map, List.length_map, List.length_map]) (by rw [List.length_map, List.length_map]; omega) (fun T hT => cond_mov rfl rfl hT) fun n S R hS hR => ?_)) rest
    obtain ⟨hn, rfl⟩ := map_get p0 hS
    rw [List.map_map] at hR
    obtain ⟨_, rfl⟩ := map_get (f := RP K ∘ fun p => pExact p (cdivof l)) p0 hR
    exact ev_call (ea2 (ev_var rfl) (ev_var rfl)) (us_exact (l.getD n p0, cdivof l) (hd hb _ (getD_memL (d := p0) hn)))
  · have e : dRow l = l := by unfold dRow; rw [if_neg hb]
    rw [e] at rest
    exact q_skip (et_is (et_I (ev_Pdeg (ev_var rfl)) ev_c) (decide_eq_false hb)) rest
abbrev Pr_prow (P : Program) (w : World) (K : Frag) (mg : Str → Option Value) (base : Heap) : Prop := Pr P w K mg base 48 (ga K "primitive_row") ["row"] [] (sp_prow K)
theorem ok_prow (N : En P K mg base) : Pr_prow P w K mg base := by
  obtain ⟨fd, F, h⟩ := fn_prow (w := w) N
  exact pr_mk F h (F.bindsN fun _ _ _ _ _ _ us hl => match us, hl with | [_], _ => rfl)
abbrev sn_ppP : List Str := ["table", "rank", "column", "best", "place", "entry"]
theorem sc_ppP : FnScope sn_ppP ["table", "rank", "column"] (defScope s_ppP) := ⟨rfl, rfl, rfl, by decide +kernel, rfl, by decide +kernel, by decide +kernel⟩
abbrev sp_ppP (K : Frag) : Sp := SpG (ι := PM × Nat × Nat) (fun p => (∀ i, i < p.1.length → p.2.2 < (p.1.getD i []).length) ∧ p.2.1 ≤ p.1.length ∧ p.1.length ≤ 100000) (fun p => [RPM K p.1, RI (p.2.1 : Int), RI (p.2.2 : Int)]) (fun p => ROpt (ppP p.1 p.2.1 p.2.2))
theorem us_ppP {K : Frag} (i : PM × Nat × Nat) (h : (fun p => (∀ i, i < p.1.length → p.2.2 < (p.1.getD i []).length) ∧ p.2.1 ≤ p.1.length ∧ p.1.length ≤ 100000) i) : ∀ vs H Q E, SpF ((fun p => [RPM K p.1, RI (p.2.1 : Int), RI (p.2.2 : Int)]) i) ((fun p => ROpt (ppP p.1 p.2.1 p.2.2)) i) vs H Q E → sp_ppP K vs H Q E := fun _ _ _ _ q => ⟨i, h, q⟩
abbrev Fn_ppP (P : Program) (w : World) (K : Frag) (mg : Str → Option Value) (base : Heap) : Prop := ∃ fd, DefF K "pivot_place" "pivot_place" s_ppP [] [] (ga K "pivot_place_polysystems") fd ∧ FnOk P w K mg base CX0 43 (ga K "pivot_place_polysystems") fd ["table", "rank", "column"] (sp_ppP K)
theorem fn_ppP (N : En P K mg base) : Fn_ppP P w K mg base := by
  have h_Pz := ok_Pz (w := w) N
  have h_Pdeg := ok_Pdeg (w := w) N
  obtain ⟨T, S, ns, tr⟩ := N
  obtain ⟨fd, F⟩ := S.def_ 59
  refine ⟨fd, F, def_ok F sc_ppP (fun _ => rfl) fun cdv A' outer s H E hr => ⟨_, (pss_cons (ps_set (i := 3) sc_ppP.nd rfl (Or.inl rfl) pe_non)
      (pss_cons (ps_for PassesOwn.never rfl (pi_range2 (by rfl) T.n_range (pa_cons (pv 1) (pa_cons (pe_callB call_len_seq (by rfl) T.n_len PySem.boot_len (pa_cons (pv 0) pa_nil)) pa_nil))) (pg_name (i := 4) sc_ppP.nd rfl (Or.inl rfl)) (pss_cons (ps_set (i := 5) sc_ppP.nd rfl (Or.inl rfl) (pe_ix ix_list (pe_ix ix_list (pv 0) (pv 4) (fun _ _ => rfl)) (pv 2) (fun _ _ => rfl)))
      (pss_one (ps_if (PW.pt (pw_and (pt_not (pt_val (pe_propP h_Pz hr (by decide) T.c_P T.p_Pz (pv 5)))) (pw_and1 (PW.pt (pw_or (pt_cmpR op_isN (pv 3) pe_non (nomark _)) (pw_or1 (pt_cmpR op_lt (pe_propP h_Pdeg hr (by decide) T.c_P T.p_Pdeg (pv 5)) (pe_propP h_Pdeg hr (by decide) T.c_P T.p_Pdeg (pe_ix ix_list (pe_ix ix_list (pv 0) (pv 3) (fun _ _ => rfl)) (pv 2) (fun _ _ => rfl))) (nomark _)))))))) (pss_one (ps_set (i := 3) sc_ppP.nd rfl (Or.inl rfl) (pv 4))) pss_nil))))
      (pss_one (ps_ret (pv 3))))), fun i hy F0 H0 Q q => ?_⟩⟩
  obtain ⟨t, rank, c⟩ := i
  replace hy : (∀ i, i < t.length → c < (t.getD i []).length) ∧ rank ≤ t.length ∧ t.length ≤ 100000 := hy
  change SJ F0 H0 _ (ctx [RPM K t, RI (rank : Int), RI (c : Int)] _) _
  obtain ⟨h1, h2, h3⟩ := hy
  have hb : ∀ n, rank + n ≤ t.length → ∀ k, ppPN t rank c n = some k → k < t.length := fun n => by
    induction n with
    | zero => intro _ k e; cases e
    | succ n ih =>
      intro hn k e
      have e' : ppStep t rank c n (ppPN t rank c n) = some k := e
      rcases ppStep_or t rank c n (ppPN t rank c n) with z | z
      · rw [z] at e'
        cases e'; omega
      · rw [z] at e'
        exact ih (by omega) k e'
  refine q_asg (R := ROpt none) ev_c ?_
  refine q_for2 (lo := (rank : Int)) (n := (t.length : Int)) (ea2 (ev_var rfl) (ev_lenM (ev_var rfl))) (by omega) (fun n => [.fz (RPM K t), .fz (RI (rank : Int)), .fz (RI (c : Int)), .fz (ROpt (ppPN t rank c n)), .any, .any]) ⟨.inr rfl, .inr rfl, .inr rfl, .inr rfl, .inl rfl, .inl rfl, trivial⟩ (fun n hn => ?_) ?_
  · have hn' : rank + n < t.length := by omega
    rw [show ((rank : Int) + (n : Int)) = ((rank + n : Nat) : Int) by omega]
    have es : ppPN t rank c (n + 1) = ppStep t rank c n (ppPN t rank c n) := rfl
    refine q_asg (R := RP K (pGet t (rank + n) c)) (ev_ixP (ev_ixPM (ev_var rfl) (ev_var rfl) hn') (ev_var rfl) (h1 _ hn')) ?_
    cases e : ppPN t rank c n with
    | none =>
      refine sj_if (et_and (b := true) (et_not (et_B (ev_Pz (ev_var rfl)))) fun hz => et_is (et_or (a := true) (b := true) (et_test (ev_opK (z := .bl true) (ev_var (R := ROpt none) rfl) ev_c fun H Q q => ⟨rfl, q⟩)) fun h => by cases h) rfl) (fun hp => ?_) fun hp => ?_
      · refine sj_asg (ev_var (R := ROpt (some (rank + n))) rfl) ?_
        rw [es, e]
        unfold ppStep
        rw [if_pos hp]
        exact nx_sub ⟨.inr rfl, .inr rfl, .inr rfl, .inr rfl, .inl rfl, .inl rfl, trivial⟩
      · refine sj_next ?_
        rw [es, e]
        unfold ppStep
        rw [if_neg (by rw [hp]; exact Bool.false_ne_true)]
        exact nx_sub ⟨.inr rfl, .inr rfl, .inr rfl, .inr rfl, .inl rfl, .inl rfl, trivial⟩
    | some k =>
      have hk := hb n (by omega) k e
      refine sj_if (et_and (b := decide (pDeg (pGet t (rank + n) c) < pDeg (pGet t k c))) (et_not (et_B (ev_Pz (ev_var rfl)))) fun hz => et_is (et_or (a := false) (b := decide (pDeg (pGet t (rank + n) c) < pDeg (pGet t k c))) (et_test (ev_opK (z := .bl false) (ev_var (R := ROpt (some k)) rfl) ev_c fun H Q q => ⟨rfl, q⟩)) fun h => et_I (ev_Pdeg (ev_var rfl)) (ev_Pdeg (p := pGet t k c) (ev_ixP (ev_ixPM (ev_var rfl) (ev_var (R := ROpt (some k)) rfl) hk) (ev_var rfl) (h1 _ hk)))) (Bool.false_or _)) (fun hp => ?_) fun hp => ?_
      · refine sj_asg (ev_var (R := ROpt (some (rank + n))) rfl) ?_
        rw [es, e]
        unfold ppStep
        rw [if_pos hp]
        exact nx_sub ⟨.inr rfl, .inr rfl, .inr rfl, .inr rfl, .inl rfl, .inl rfl, trivial⟩
      · refine sj_next ?_
        rw [es, e]
        unfold ppStep
        rw [if_neg (by rw [hp]; exact Bool.false_ne_true)]
        exact nx_sub ⟨.inr rfl, .inr rfl, .inr rfl, .inr rfl, .inl rfl, .inl rfl, trivial⟩
  · rw [show ((t.length : Int) - (rank : Int)).toNat = t.length - rank by omega]
    exact sj_ret (ev_var rfl) q
abbrev Pr_ppP (P : Program) (w : World) (K : Frag) (mg : Str → Option Value) (base : Heap) : Prop := Pr P w K mg base 43 (ga K "pivot_place_polysystems") ["table", "rank", "column"] [] (sp_ppP K)
theorem ok_ppP (N : En P K mg base) : Pr_ppP P w K mg base := by
  obtain ⟨fd, F, h⟩ := fn_ppP (w := w) N
  exact pr_mk F h (F.bindsN fun _ _ _ _ _ _ us hl => match us, hl with | [_, _, _], _ => rfl)
abbrev sn_elim : List Str := ["row", "pivot", "column", "last", "keep", "drop", "result", "index"]
theorem sc_elim : FnScope sn_elim ["row", "pivot", "column", "last"] (defScope s_elim) := ⟨rfl, rfl, rfl, by decide +kernel, rfl, by decide +kernel, by decide +kernel⟩
abbrev sp_elim (K : Frag) : Sp := SpG (ι := List Po × List Po × Nat × Po) (fun p => ElOk p.1 p.2.1 p.2.2.1 p.2.2.2) (fun p => [RPL K p.1, RPL K p.2.1, RI (p.2.2.1 : Int), RP K p.2.2.2]) (fun p => RPL K (elimR p.1 p.2.1 p.2.2.1 p.2.2.2))
theorem us_elim {K : Frag} (i : List Po × List Po × Nat × Po) (h : (fun p => ElOk p.1 p.2.1 p.2.2.1 p.2.2.2) i) : ∀ vs H Q E, SpF ((fun p => [RPL K p.1, RPL K p.2.1, RI (p.2.2.1 : Int), RP K p.2.2.2]) i) ((fun p => RPL K (elimR p.1 p.2.1 p.2.2.1 p.2.2.2)) i) vs H Q E → sp_elim K vs H Q E := fun _ _ _ _ q => ⟨i, h, q⟩
abbrev Fn_elim (P : Program) (w : World) (K : Frag) (mg : Str → Option Value) (base : Heap) : Prop := ∃ fd, DefF K "eliminated" "eliminated" s_elim [] [] (ga K "eliminated") fd ∧ FnOk P w K mg base CX0 46 (ga K "eliminated") fd ["row", "pivot", "column", "last"] (sp_elim K)
theorem fn_elim (N : En P K mg base) : Fn_elim P w K mg base := by
  have h_exact := ok_exact (w := w) N
  have h_Pmul := ok_Pmul (w := w) N
  have h_Psub := ok_Psub (w := w) N
  obtain ⟨T, S, ns, tr⟩ := N
  obtain ⟨fd, F⟩ := S.def_ 60
  refine ⟨fd, F, def_ok F sc_elim (fun _ => rfl) fun cdv A' outer s H E hr => ⟨_, (pss_cons (ps_set (i := 4) sc_elim.nd rfl (Or.inl rfl) (pe_ix ix_list (pv 1) (pv 2) (fun _ _ => rfl)))
      (pss_cons (ps_set (i := 5) sc_elim.nd rfl (Or.inl rfl) (pe_ix ix_list (pv 0) (pv 2) (fun _ _ => rfl)))
      (pss_cons (ps_set (i := 6) sc_elim.nd rfl (Or.inl rfl) (pe_lst pa_nil))
      (pss_cons (ps_for PassesOwn.never rfl (pi_range1 rfl T.n_range (pa_cons (pe_callB call_len_seq (by rfl) T.n_len PySem.boot_len (pa_cons (pv 0) pa_nil)) pa_nil)) (pg_name (i := 7) sc_elim.nd rfl (Or.inl rfl)) (pss_one (ps_expr (pe_bm PySem.F.plainAttrs_list PySem.F.slot_list_append PySem.F.type_list_append mt_append (pv 6) (pa_cons (pe_callP h_exact hr (by decide) rfl T.g_exact (pa_cons (pe_op (op_bin h_Psub T.o_Psub.at_ T.o_Psub.fn T.f_P hr (by decide)) (pe_op (op_bin h_Pmul T.o_Pmul.at_ T.o_Pmul.fn T.f_P hr (by decide)) (pv 4) (pe_ix ix_list (pv 0) (pv 7) (fun _ _ => rfl))) (pe_op (op_bin h_Pmul T.o_Pmul.at_ T.o_Pmul.fn T.f_P hr (by decide)) (pv 5) (pe_ix ix_list (pv 1) (pv 7) (fun _ _ => rfl)))) (pa_cons (pv 3) pa_nil))) pa_nil)))))
      (pss_one (ps_ret (pv 6))))))), fun i hy F0 H0 Q q => ?_⟩⟩
  obtain ⟨row, piv, c, last⟩ := i
  replace hy : ElOk row piv c last := hy
  change SJ F0 H0 _ (ctx [RPL K row, RPL K piv, RI (c : Int), RP K last] _) _
  obtain ⟨⟨a, L, h1, h2, hs, hL⟩, hc, hl, hl2, hdv⟩ := hy
  refine q_asg (ev_ixP (ev_var rfl) (ev_var rfl) (by omega)) ?_
  refine q_asg (ev_ixP (ev_var rfl) (ev_var rfl) hc) ?_
  refine q_asgO (eo_lst ea_nil (by simp)) ?_
  refine q_for1 (n := (row.length : Int)) (ea1 (ev_lenM (ev_var rfl))) (by omega) (by omega) (fun i => [.fz (RPL K row), .fz (RPL K piv), .fz (RI (c : Int)), .fz (RP K last), .fz (RP K (piv.getD c p0)), .fz (RP K (row.getD c p0)), .own (((List.range i).map fun i => pExact (eNum row piv c i) last).map (RP K)), .any]) ⟨.inr rfl, .inr rfl, .inr rfl, .inr rfl, .inr rfl, .inr rfl, .inr rfl, .inl rfl, trivial⟩ (fun i hi => ?_) ?_
  · have hi' : i < row.length := by omega
    have z1 := zp_mul (zp_getD h2 c) (zp_getD h1 i)
    have z2 := zp_mul (zp_getD h1 c) (zp_getD h2 i)
    refine sj_app rfl (ev_call (ea2 (ev_Psub (ev_Pmul (ev_var rfl) (ev_ixP (ev_var rfl) (ev_var rfl) hi') (zp_getD h2 c) (zp_getD h1 i) (by omega) (by omega)) (ev_Pmul (ev_var rfl) (ev_ixP (ev_var rfl) (ev_var rfl) (by omega)) (zp_getD h1 c) (zp_getD h2 i) (by omega) (by omega)) z1 z2 (by omega) (by omega) (by omega)) (ev_var rfl)) (us_exact (_, last) (hdv i hi'))) (by rw [List.length_map, List.length_map, List.length_range]; omega) (nx_sub ⟨.inr rfl, .inr rfl, .inr rfl, .inr rfl, .inr rfl, .inr rfl, .inr ?_, .inl rfl, trivial⟩)
    rw [List.range_succ, List.map_append, List.map_append]
    rfl
  · rw [Int.toNat_natCast]
    refine sj_freeze (i := 6) rfl ?_
    exact sj_ret (ev_var rfl) q
abbrev Pr_elim (P : Program) (w : World) (K : Frag) (mg : Str → Option Value) (base : Heap) : Prop := Pr P w K mg base 46 (ga K "eliminated") ["row", "pivot", "column", "last"] [] (sp_elim K)
theorem ok_elim (N : En P K mg base) : Pr_elim P w K mg base := by
  obtain ⟨fd, F, h⟩ := fn_elim (w := w) N
  exact pr_mk F h (F.bindsN fun _ _ _ _ _ _ us hl => match us, hl with | [_, _, _, _], _ => rfl)
abbrev sn_clearedP : List Str := ["table", "rank", "place", "column", "last", "rows", "pivot", "result", "index"]
theorem sc_clearedP : FnScope sn_clearedP ["table", "rank", "place", "column", "last"] (defScope s_clearedP) := ⟨rfl, rfl, rfl, by decide +kernel, rfl, by decide +kernel, by decide +kernel⟩
abbrev sp_clearedP (K : Frag) : Sp := SpG (ι := PM × Nat × Nat × Nat × Po) (fun p => ClOk p.1 p.2.1 p.2.2.1 p.2.2.2.1 p.2.2.2.2) (fun p => [RPM K p.1, RI (p.2.1 : Int), RI (p.2.2.1 : Int), RI (p.2.2.2.1 : Int), RP K p.2.2.2.2]) (fun p => RPM K (clP p.1 p.2.1 p.2.2.1 p.2.2.2.1 p.2.2.2.2))
theorem us_clearedP {K : Frag} (i : PM × Nat × Nat × Nat × Po) (h : (fun p => ClOk p.1 p.2.1 p.2.2.1 p.2.2.2.1 p.2.2.2.2) i) : ∀ vs H Q E, SpF ((fun p => [RPM K p.1, RI (p.2.1 : Int), RI (p.2.2.1 : Int), RI (p.2.2.2.1 : Int), RP K p.2.2.2.2]) i) ((fun p => RPM K (clP p.1 p.2.1 p.2.2.1 p.2.2.2.1 p.2.2.2.2)) i) vs H Q E → sp_clearedP K vs H Q E := fun _ _ _ _ q => ⟨i, h, q⟩
abbrev Fn_clearedP (P : Program) (w : World) (K : Frag) (mg : Str → Option Value) (base : Heap) : Prop := ∃ fd, DefF K "cleared" "cleared" s_clearedP [] [] (ga K "cleared_polysystems") fd ∧ FnOk P w K mg base CX0 47 (ga K "cleared_polysystems") fd ["table", "rank", "place", "column", "last"] (sp_clearedP K)
theorem fn_clearedP (N : En P K mg base) : Fn_clearedP P w K mg base := by
  have h_elim := ok_elim (w := w) N
  obtain ⟨T, S, ns, tr⟩ := N
  obtain ⟨fd, F⟩ := S.def_ 61
  refine ⟨fd, F, def_ok F sc_clearedP (fun _ => rfl) fun cdv A' outer s H E hr => ⟨_, (pss_cons (ps_set (i := 5) sc_clearedP.nd rfl (Or.inl rfl) (pe_callTy call_list_of (by rfl) T.n_list bt_list (pa_cons (pv 0) pa_nil)))
      (pss_cons (ps_set (i := 6) sc_clearedP.nd rfl (Or.inl rfl) (pe_ix ix_list (pv 5) (pv 2) (fun _ _ => rfl)))
      (pss_cons (ps_asg (pe_ix ix_list (pv 5) (pv 1) (fun _ _ => rfl)) (pg_sub (pv 5) (pv 2) set_list))
      (pss_cons (ps_set (i := 7) sc_clearedP.nd rfl (Or.inl rfl) (pe_lst pa_nil))
      (pss_cons (ps_for PassesOwn.never rfl (pi_range1 rfl T.n_range (pa_cons (pe_callB call_len_seq (by rfl) T.n_len PySem.boot_len (pa_cons (pv 5) pa_nil)) pa_nil)) (pg_name (i := 8) sc_clearedP.nd rfl (Or.inl rfl)) (pss_one (ps_if (pt_cmpR op_eq (pv 8) (pv 1) (nomark _)) (pss_one (ps_expr (pe_bm PySem.F.plainAttrs_list PySem.F.slot_list_append PySem.F.type_list_append mt_append (pv 7) (pa_cons (pv 6) pa_nil)))) (pss_one (ps_expr (pe_bm PySem.F.plainAttrs_list PySem.F.slot_list_append PySem.F.type_list_append mt_append (pv 7) (pa_cons (pe_callP h_elim hr (by decide) rfl T.g_elim (pa_cons (pe_ix ix_list (pv 5) (pv 8) (fun _ _ => rfl)) (pa_cons (pv 6) (pa_cons (pv 3) (pa_cons (pv 4) pa_nil))))) pa_nil)))))))
      (pss_one (ps_ret (pv 7)))))))), fun i hy F0 H0 Q q => ?_⟩⟩
  obtain ⟨t, rank, place, c, last⟩ := i
  replace hy : ClOk t rank place c last := hy
  change SJ F0 H0 _ (ctx [RPM K t, RI (rank : Int), RI (place : Int), RI (c : Int), RP K last] _) _
  obtain ⟨h1, h2, hlen, hel⟩ := hy
  refine q_asgO (eo_listL (ev_var rfl)) ?_
  refine q_asg (ev_ixO (n := place) (R := RPL K (t.getD place [])) rfl (ev_var rfl) (get_map [] h2)) ?_
  refine q_setO (n := place) (R := RPL K (t.getD rank [])) rfl (ev_ixO (n := rank) rfl (ev_var rfl) (get_map [] h1)) (ev_var rfl) (by rw [List.length_map]; omega) ?_
  have e1 : (t.map (RPL K)).set place (RPL K (t.getD rank [])) = (t.set place (t.getD rank [])).map (RPL K) := map_set'
  rw [e1]
  refine q_asgO (eo_lst ea_nil (by simp)) ?_
  refine q_for1 (n := (t.length : Int)) (ea1 (ev_i (ev_lenMO rfl) (by rw [List.length_set]))) (by omega) (by omega) (fun i => [.fz (RPM K t), .fz (RI (rank : Int)), .fz (RI (place : Int)), .fz (RI (c : Int)), .fz (RP K last), .own ((t.set place (t.getD rank [])).map (RPL K)), .fz (RPL K (t.getD place [])), .own (((List.range i).map fun i => clPRow t rank place c last i).map (RPL K)), .any]) ⟨.inr rfl, .inr rfl, .inr rfl, .inr rfl, .inr rfl, .inr rfl, .inr rfl, .inr rfl, .inl rfl, trivial⟩ (fun i hi => ?_) ?_
  · have hi' : i < t.length := by omega
    have e2 : (((List.range (i + 1)).map fun i => clPRow t rank place c last i).map (RPL K)) = ((List.range i).map fun i => clPRow t rank place c last i).map (RPL K) ++ [RPL K (clPRow t rank place c last i)] := by
      rw [List.range_succ, List.map_append, List.map_append]
      rfl
    refine sj_if (et_eqI (ev_var rfl) (ev_var rfl)) (fun hb => ?_) fun hb => ?_
    · have hir : i = rank := by have := of_decide_eq_true hb; omega
      refine sj_app rfl (ev_var rfl) (by rw [List.length_map, List.length_map, List.length_range]; omega) (nx_sub ⟨.inr rfl, .inr rfl, .inr rfl, .inr rfl, .inr rfl, .inr rfl, .inr rfl, .inr ?_, .inl rfl, trivial⟩)
      rw [e2]
      unfold clPRow
      rw [if_pos hir]
    · have hir : ¬ i = rank := by have := of_decide_eq_false hb; omega
      refine sj_app rfl (ev_call (ea_cons (ev_ixO (n := i) (R := RPL K ((t.set place (t.getD rank [])).getD i [])) rfl (ev_var rfl) (get_map [] (by rw [List.length_set]; omega))) (ea_cons (ev_var rfl) (ea2 (ev_var rfl) (ev_var rfl)))) (us_elim (_, _, _, _) (hel i hi' hir))) (by rw [List.length_map, List.length_map, List.length_range]; omega) (nx_sub ⟨.inr rfl, .inr rfl, .inr rfl, .inr rfl, .inr rfl, .inr rfl, .inr rfl, .inr ?_, .inl rfl, trivial⟩)
      rw [e2]
      unfold clPRow
      rw [if_neg hir]
      rfl
  · rw [Int.toNat_natCast]
    refine sj_freeze (i := 7) rfl ?_
    exact sj_ret (ev_var rfl) q
abbrev Pr_clearedP (P : Program) (w : World) (K : Frag) (mg : Str → Option Value) (base : Heap) : Prop := Pr P w K mg base 47 (ga K "cleared_polysystems") ["table", "rank", "place", "column", "last"] [] (sp_clearedP K)
theorem ok_clearedP (N : En P K mg base) : Pr_clearedP P w K mg base := by
  obtain ⟨fd, F, h⟩ := fn_clearedP (w := w) N
  exact pr_mk F h (F.bindsN fun _ _ _ _ _ _ us hl => match us, hl with | [_, _, _, _, _], _ => rfl)
structure KvOk (t : PM) (c : Nat) (last : Po) (w : Nat) : Prop where
  cw : c < w
  wl : w ≤ 90000
  tl : c ≤ t.length
  el : ∀ i, i < c → c < (t.getD i []).length ∧ ∃ a L, ZP a L (pGet t i c) ∧ L ≤ 100000
  pr : PRowOk (kvP0 t c last w)
theorem kvPIn_len (t : PM) (c : Nat) (v : List Po) : ∀ n, (kvPIn t c n v).length = v.length
  | 0 => rfl
  | n + 1 => by
    show (List.set _ _ _).length = _
    rw [List.length_set]; exact kvPIn_len t c v n
abbrev sn_kvec : List Str := ["table", "pivots", "column", "last", "width", "vector", "index", "_"]
theorem sc_kvec : FnScope sn_kvec ["table", "pivots", "column", "last", "width"] (defScope s_kvec) := ⟨rfl, rfl, rfl, by decide +kernel, rfl, by decide +kernel, by decide +kernel⟩
abbrev sp_kvec (K : Frag) : Sp := SpG (ι := PM × Nat × Po × Nat) (fun p => KvOk p.1 p.2.1 p.2.2.1 p.2.2.2) (fun p => [RPM K p.1, RL ((List.range p.2.1).map RNI), RI (p.2.1 : Int), RP K p.2.2.1, RI (p.2.2.2 : Int)]) (fun p => RPL K (kvP p.1 p.2.1 p.2.2.1 p.2.2.2))
theorem us_kvec {K : Frag} (i : PM × Nat × Po × Nat) (h : (fun p => KvOk p.1 p.2.1 p.2.2.1 p.2.2.2) i) : ∀ vs H Q E, SpF ((fun p => [RPM K p.1, RL ((List.range p.2.1).map RNI), RI (p.2.1 : Int), RP K p.2.2.1, RI (p.2.2.2 : Int)]) i) ((fun p => RPL K (kvP p.1 p.2.1 p.2.2.1 p.2.2.2)) i) vs H Q E → sp_kvec K vs H Q E := fun _ _ _ _ q => ⟨i, h, q⟩
abbrev Fn_kvec (P : Program) (w : World) (K : Frag) (mg : Str → Option Value) (base : Heap) : Prop := ∃ fd, DefF K "kernel_vector" "kernel_vector" s_kvec [] [] (ga K "kernel_vector") fd ∧ FnOk P w K mg base CX0 49 (ga K "kernel_vector") fd ["table", "pivots", "column", "last", "width"] (sp_kvec K)
theorem fn_kvec (N : En P K mg base) : Fn_kvec P w K mg base := by
  have h_Pi := ok_Pi (w := w) N
  have h_Pi1 := ok_Pi1 (w := w) N
  have h_Pneg := ok_Pneg (w := w) N
  have h_prow := ok_prow (w := w) N
  obtain ⟨T, S, ns, tr⟩ := N
  obtain ⟨fd, F⟩ := S.def_ 62
  refine ⟨fd, F, def_ok F sc_kvec (fun _ => rfl) fun cdv A' outer s H E hr => ⟨_, (pss_cons (ps_setLc (i := 5) (own := [("_", 7)]) (g := gName 7) (by rfl) sc_kvec.nd rfl rfl (sw_true rfl rfl rfl (by decide +kernel)) (pi_range1 rfl T.n_range (pa_cons (pv 4) pa_nil)) (blkOk_by (own := [("_", 7)]) (N := sn_kvec) (sc := defScope s_kvec) (by decide +kernel)) (fun _ _ _ _ _ => (pg_name (i := 7) sc_kvec.nd rfl (by first | exact Or.inl rfl | exact Or.inr rfl))) (fun _ _ _ _ _ => pts_nil) (fun _ _ _ _ _ => (pe_makeP h_Pi1 hr (by decide) T.mk_P rfl T.g_P (pa_cons (pe_lst pa_nil) pa_nil))))
      (pss_cons (ps_asg (pv 3) (pg_sub (pv 5) (pv 2) set_list))
      (pss_cons (ps_for PassesOwn.never rfl (pi_range1 rfl T.n_range (pa_cons (pe_callB call_len_seq (by rfl) T.n_len PySem.boot_len (pa_cons (pv 1) pa_nil)) pa_nil)) (pg_name (i := 6) sc_kvec.nd rfl (Or.inl rfl)) (pss_one (ps_asg (pe_un (un_negOwn h_Pneg T.o_Pneg.at_ T.o_Pneg.fn hr (by decide)) (pe_ix ix_list (pe_ix ix_list (pv 0) (pv 6) (fun _ _ => rfl)) (pv 2) (fun _ _ => rfl))) (pg_sub (pv 5) (pe_ix ix_list (pv 1) (pv 6) (fun _ _ => rfl)) set_list))))
      (pss_one (ps_ret (pe_callP h_prow hr (by decide) rfl T.g_prow (pa_cons (pv 5) pa_nil))))))), fun i hy F0 H0 Q q => ?_⟩⟩
  obtain ⟨t, c, last, w⟩ := i
  replace hy : KvOk t c last w := hy
  change SJ F0 H0 _ (ctx [RPM K t, RL ((List.range c).map RNI), RI (c : Int), RP K last, RI (w : Int)] _) _
  obtain ⟨hcw, hwl, htl, hel, hpr⟩ := hy
  refine q_asgO (eo_lc1 (n := (w : Int)) (Rs := (List.replicate w p0).map (RP K)) (ea1 (ev_var rfl)) (by omega) (by rw [List.length_map, List.length_replicate]; omega) (by omega) (fun T hT => cond_mov rfl rfl hT) fun n R hR => ?_) ?_
  · rw [List.map_replicate] at hR
    rw [List.eq_of_mem_replicate (List.mem_of_getElem? hR)]
    exact ev_make (ea1 (EO.ev (eo_lst ea_nil (by simp)))) (us_Pi (false, [], 1) ⟨one_ne, by simp⟩)
  refine q_setO (n := c) rfl (ev_var rfl) (ev_var rfl) (by rw [List.length_map, List.length_replicate]; omega) ?_
  have e1 : ((List.replicate w p0).map (RP K)).set c (RP K last) = ((List.replicate w p0).set c last).map (RP K) := map_set'
  rw [e1]
  refine q_for1 (n := (c : Int)) (ea1 (ev_i (ev_lenM (ev_var rfl)) (by rw [List.length_range]))) (by omega) (by omega) (fun i => [.fz (RPM K t), .fz (RL ((List.range c).map RNI)), .fz (RI (c : Int)), .fz (RP K last), .fz (RI (w : Int)), .own ((kvPIn t c i ((List.replicate w p0).set c last)).map (RP K)), .any, .any]) ⟨.inr rfl, .inr rfl, .inr rfl, .inr rfl, .inr rfl, .inr rfl, .inl rfl, .inl rfl, trivial⟩ (fun i hi => ?_) ?_
  · have hi' : i < c := by omega
    obtain ⟨g1, a, L, g2, g3⟩ := hel i hi'
    have e3 : (List.range c).getD i 0 = i := by rw [List.getD_eq_getElem?_getD, List.getElem?_range hi']; rfl
    refine sj_setO (n := i) rfl (ev_Pneg (x := pGet t i c) (ev_ixP (ev_ixPM (ev_var rfl) (ev_var rfl) (by omega)) (ev_var rfl) g1) g2 g3) (ev_i (ev_ixN (ev_var rfl) (ev_var rfl) (by rw [List.length_range]; exact hi')) (by rw [e3])) (by rw [List.length_map, kvPIn_len, List.length_set, List.length_replicate]; omega) (nx_sub ⟨.inr rfl, .inr rfl, .inr rfl, .inr rfl, .inr rfl, .inr ?_, .inl rfl, .inl rfl, trivial⟩)
    rw [map_set']
    rfl
  · rw [Int.toNat_natCast]
    refine sj_freeze (i := 5) rfl ?_
    exact sj_ret (ev_call (ea1 (ev_var rfl)) (us_prow (kvP0 t c last w) hpr)) q
abbrev Pr_kvec (P : Program) (w : World) (K : Frag) (mg : Str → Option Value) (base : Heap) : Prop := Pr P w K mg base 49 (ga K "kernel_vector") ["table", "pivots", "column", "last", "width"] [] (sp_kvec K)
theorem ok_kvec (N : En P K mg base) : Pr_kvec P w K mg base := by
  obtain ⟨fd, F, h⟩ := fn_kvec (w := w) N
  exact pr_mk F h (F.bindsN fun _ _ _ _ _ _ us hl => match us, hl with | [_, _, _, _, _], _ => rfl)
end
end G
end
section
set_option maxRecDepth 100000
set_option maxHeartbeats 4000000
namespace G
open PySem PySem.Spec PyProof.Rows L2 He
open _root_.RT (ItvT iRevA pi_revA)
section
variable {P : Program} {w : World} {K : Frag} {mg : Str → Option Value} {base : Heap}
/-- the elimination runs up to the column stop, each column with a pivot -/
structure PKOk (rows : PM) (w stop : Nat) : Prop where
  pr : ∀ r ∈ rows, PRowOk r
  len : rows.length ≤ 90000
  wl : w ≤ 1000
  sw : stop ≤ w
  tl : ∀ c, c ≤ stop → (pkN rows c).t.length = rows.length ∧ c ≤ rows.length
  rl : ∀ c, c ≤ stop → ∀ i, i < rows.length → ((pkN rows c).t.getD i []).length = w
  step : ∀ c, c < stop → ∃ pl, ppP (pkN rows c).t c c = some pl ∧ ClOk (pkN rows c).t c pl c (pkN rows c).last
abbrev InvOk (rows : PM) (w N : Nat) (m : Mx) : Prop := (∃ a b L, (∀ r ∈ rows, r.length ≤ 100000 ∧ ∀ x ∈ r, ZP a L x) ∧ lg (N : Int) ≤ b ∧ a + L * (b + 2) + b < 130000000 ∧ rows.length ≤ 100000) ∧ (∀ i, i ≤ N → ∃ a n, TF a n w (ratM rows i) ∧ bk a w < 130000000 ∧ n ≤ 1000 ∧ w ≤ n) ∧ (∀ i, i < N → isVec (kernelM (ratM rows i) w) = true) ∧ kernelM (ratM rows N) w = .inv m
def PAok (rows : PM) (w : Nat) : PA → Prop
  | .vec c => PKOk rows w c ∧ ppP (pkN rows c).t c c = none ∧ KvOk (pkN rows c).t c (pkN rows c).last w
  | .pt N m => PKOk rows w w ∧ InvOk rows w N m
def PA.stop (w : Nat) : PA → Nat
  | .vec c => c
  | .pt _ _ => w
theorem PAok.pk {rows : PM} {w : Nat} : ∀ {a : PA}, PAok rows w a → PKOk rows w (a.stop w)
  | .vec _, h => h.1
  | .pt _ _, h => h.1
def pkCtx (K : Frag) (rows : PM) (w stop i : Nat) : List Ty :=
  [if i ≤ stop then .fz (RPM K rows) else .fz RNo, .fz (RI (w : Int)), .fz (RPM K (pkN rows i).t), .own ((List.range i).map RNI), .fz (RP K (pkN rows i).last), .any, .any, .any]
abbrev sn_pkernel : List Str := ["rows", "width", "table", "pivots", "last", "column", "place", "row"]
theorem sc_pkernel : FnScope sn_pkernel ["rows", "width"] (defScope s_pkernel) := ⟨rfl, rfl, rfl, by decide +kernel, rfl, by decide +kernel, by decide +kernel⟩
abbrev sp_pkernel (K : Frag) : Sp := SpG (ι := PM × Nat × PA) (fun p => PAok p.1 p.2.1 p.2.2) (fun p => [RPM K p.1, RI (p.2.1 : Int)]) (fun p => RPA K p.1 p.2.1 p.2.2)
theorem us_pkernel {K : Frag} (i : PM × Nat × PA) (h : (fun p => PAok p.1 p.2.1 p.2.2) i) : ∀ vs H Q E, SpF ((fun p => [RPM K p.1, RI (p.2.1 : Int)]) i) ((fun p => RPA K p.1 p.2.1 p.2.2) i) vs H Q E → sp_pkernel K vs H Q E := fun _ _ _ _ q => ⟨i, h, q⟩
abbrev Fn_pkernel (P : Program) (w : World) (K : Frag) (mg : Str → Option Value) (base : Heap) : Prop := ∃ fd, DefF K "poly_kernel" "poly_kernel" s_pkernel [] [] (ga K "poly_kernel") fd ∧ FnOk P w K mg base CX0 50 (ga K "poly_kernel") fd ["rows", "width"] (sp_pkernel K)
theorem fn_pkernel (N : En P K mg base) : Fn_pkernel P w K mg base := by
  have h_prow := ok_prow (w := w) N
  have h_Pi := ok_Pi (w := w) N
  have h_Pi1 := ok_Pi1 (w := w) N
  have h_ppP := ok_ppP (w := w) N
  have h_kvec := ok_kvec (w := w) N
  have h_clearedP := ok_clearedP (w := w) N
  have h_invat := ok_invat (w := w) N
  obtain ⟨T, S, ns, tr⟩ := N
  obtain ⟨fd, F⟩ := S.def_ 65
  refine ⟨fd, F, def_ok F sc_pkernel (fun _ => rfl) fun cdv A' outer s H E hr => ⟨_, (pss_cons (ps_setLc (i := 2) (own := [("row", 7)]) (g := gName 7) (by rfl) sc_pkernel.nd rfl rfl (sw_true rfl rfl rfl (by decide +kernel)) (pi_list (pv 0)) (blkOk_by (own := [("row", 7)]) (N := sn_pkernel) (sc := defScope s_pkernel) (by decide +kernel)) (fun _ _ _ _ _ => (pg_name (i := 7) sc_pkernel.nd rfl (by first | exact Or.inl rfl | exact Or.inr rfl))) (fun _ _ _ _ _ => pts_nil) (fun _ _ _ _ _ => (pe_callP h_prow hr (by decide) rfl T.g_prow (pa_cons (pe_callTy (call_list_ofK K rfl) (by rfl) T.n_list bt_list (pa_cons (pv 7) pa_nil)) pa_nil))))
      (pss_cons (ps_set (i := 3) sc_pkernel.nd rfl (Or.inl rfl) (pe_lst pa_nil))
      (pss_cons (ps_set (i := 4) sc_pkernel.nd rfl (Or.inl rfl) (pe_makeP h_Pi1 hr (by decide) T.mk_P rfl T.g_P (pa_cons (pe_lst (pa_cons pe_int pa_nil)) pa_nil)))
      (pss_cons (ps_for PassesOwn.never rfl (pi_range1 rfl T.n_range (pa_cons (pv 1) pa_nil)) (pg_name (i := 5) sc_pkernel.nd rfl (Or.inl rfl)) (pss_cons (ps_set (i := 6) sc_pkernel.nd rfl (Or.inl rfl) (pe_callP h_ppP hr (by decide) rfl T.g_ppP (pa_cons (pv 2) (pa_cons (pe_callB call_len_seq (by rfl) T.n_len PySem.boot_len (pa_cons (pv 3) pa_nil)) (pa_cons (pv 5) pa_nil)))))
      (pss_cons (ps_if (pt_cmpR op_isN (pv 6) pe_non (nomark _)) (pss_one (ps_ret (pe_tup (pa_cons pe_str (pa_cons (pe_callP h_kvec hr (by decide) rfl T.g_kvec (pa_cons (pv 2) (pa_cons (pv 3) (pa_cons (pv 5) (pa_cons (pv 4) (pa_cons (pv 1) pa_nil)))))) pa_nil))))) pss_nil)
      (pss_cons (ps_set (i := 2) sc_pkernel.nd rfl (Or.inl rfl) (pe_callP h_clearedP hr (by decide) rfl T.g_clearedP (pa_cons (pv 2) (pa_cons (pe_callB call_len_seq (by rfl) T.n_len PySem.boot_len (pa_cons (pv 3) pa_nil)) (pa_cons (pv 6) (pa_cons (pv 5) (pa_cons (pv 4) pa_nil)))))))
      (pss_cons (ps_set (i := 4) sc_pkernel.nd rfl (Or.inl rfl) (pe_ix ix_list (pe_ix ix_list (pv 2) (pe_callB call_len_seq (by rfl) T.n_len PySem.boot_len (pa_cons (pv 3) pa_nil)) (fun _ _ => rfl)) (pv 5) (fun _ _ => rfl)))
      (pss_one (ps_expr (pe_bm PySem.F.plainAttrs_list PySem.F.slot_list_append PySem.F.type_list_append mt_append (pv 3) (pa_cons (pv 5) pa_nil)))))))))
      (pss_one (ps_ret (pe_callP h_invat hr (by decide) rfl T.g_invat (pa_cons (pv 0) (pa_cons (pv 1) pa_nil))))))))), fun i hy F0 H0 Q q => ?_⟩⟩
  obtain ⟨rows, w, pa⟩ := i
  replace hy : PAok rows w pa := hy
  change SJ F0 H0 _ (ctx [RPM K rows, RI (w : Int)] _) _
  have hk := hy.pk
  obtain ⟨hpr, hlen, hwl, hsw, htl, hrl, hst⟩ := hk
  refine q_asg (EO.ev (eo_lcL (Rs := (rows.map pRow).map (RPL K)) (ev_var rfl) (by rw [List.length_map, List.length_map, List.length_map]) (by rw [List.length_map, List.length_map]; omega) (fun T hT => cond_mov rfl rfl hT) fun i S R hS hR => ?_)) ?_
  · obtain ⟨hi, rfl⟩ := map_get [] hS
    rw [List.map_map] at hR
    obtain ⟨_, rfl⟩ := map_get (f := RPL K ∘ pRow) [] hR
    exact ev_call (ea1 (EO.ev (eo_listL (ev_var rfl)))) (us_prow (rows.getD i []) (hpr _ (getD_memL (d := []) hi)))
  refine q_asgO (eo_lst ea_nil (by simp)) ?_
  refine q_asg (ev_make (ea1 (EO.ev (eo_lst (ea1 ev_c) (by simp)))) (us_Pi (false, [1], 1) ⟨one_ne, by simp⟩)) ?_
  refine q_for1 (n := (w : Int)) (ea1 (ev_var rfl)) (by omega) (by omega) (pkCtx K rows w (pa.stop w)) ⟨.inr (by rw [if_pos (Nat.zero_le _)]), .inr rfl, .inr rfl, .inr rfl, .inr rfl, .inl rfl, .inl rfl, .inl rfl, trivial⟩ (fun c hc => ?_) ?_
  · have hc' : c < w := by omega
    unfold pkCtx
    by_cases hcs : c ≤ pa.stop w
    · rw [if_pos hcs]
      obtain ⟨l1, l2⟩ := htl c hcs
      have lr := hrl c hcs
      refine q_asg (R := ROpt (ppP (pkN rows c).t c c)) (ev_call (ea_cons (ev_var rfl) (ea2 (ev_i (j := (c : Int)) (ev_lenMO rfl) (by rw [List.length_range])) (ev_var rfl))) (us_ppP ((pkN rows c).t, c, c) ⟨fun i hi => ?_, by show c ≤ (pkN rows c).t.length; omega, by show (pkN rows c).t.length ≤ 100000; omega⟩)) ?_
      · show c < ((pkN rows c).t.getD i []).length
        have hi' : i < (pkN rows c).t.length := hi
        rw [lr i (by omega)]; exact hc'
      by_cases hlt : c < pa.stop w
      · obtain ⟨pl, e, hcl⟩ := hst c hlt
        have es : pkN rows (c + 1) = ⟨clP (pkN rows c).t c pl c (pkN rows c).last, pGet (clP (pkN rows c).t c pl c (pkN rows c).last) c c⟩ := by
          show pkStep c (pkN rows c) = _
          unfold pkStep
          rw [e]
        have l3 := (htl (c + 1) hlt).1
        have l4 := (htl (c + 1) hlt).2
        have l5 := hrl (c + 1) hlt c (by omega)
        rw [es] at l3 l5
        replace l3 : (clP (pkN rows c).t c pl c (pkN rows c).last).length = rows.length := l3
        replace l5 : ((clP (pkN rows c).t c pl c (pkN rows c).last).getD c []).length = w := l5
        rw [e]
        refine q_skip (et_test (ev_opK (z := .bl false) (ev_var (R := ROpt (some pl)) rfl) ev_c fun H Q q => ⟨rfl, q⟩)) ?_
        refine q_asg (R := RPM K (clP (pkN rows c).t c pl c (pkN rows c).last)) (ev_call (ea_cons (ev_var rfl) (ea_cons (ev_i (j := (c : Int)) (ev_lenMO rfl) (by rw [List.length_range])) (ea_cons (ev_var (R := ROpt (some pl)) rfl) (ea2 (ev_var rfl) (ev_var rfl))))) (us_clearedP ((pkN rows c).t, c, pl, c, (pkN rows c).last) hcl)) ?_
        refine q_asg (R := RP K (pGet (clP (pkN rows c).t c pl c (pkN rows c).last) c c)) (ev_ixP (ev_ixPM (ev_var rfl) (ev_i (j := (c : Int)) (ev_lenMO rfl) (by rw [List.length_range])) (by show c < (clP (pkN rows c).t c pl c (pkN rows c).last).length; omega)) (ev_var rfl) (by show c < ((clP (pkN rows c).t c pl c (pkN rows c).last).getD c []).length; omega)) ?_
        refine sj_app rfl (ev_var rfl) (by rw [List.length_map, List.length_range]; omega) ?_
        rw [es]
        refine nx_sub ⟨.inr (by rw [if_pos (show c + 1 ≤ pa.stop w from hlt)]), .inr rfl, .inr rfl, .inr ?_, .inr rfl, .inl rfl, .inl rfl, .inl rfl, trivial⟩
        rw [List.range_succ, List.map_append]
        rfl
      · have hce : c = pa.stop w := by omega
        cases pa with
        | pt N m => exact absurd hc' (by show ¬ c < w; have : c = w := hce; omega)
        | vec c' =>
          obtain rfl : c = c' := hce
          obtain ⟨_, e, hkv⟩ := hy
          rw [e]
          refine q_when (b := true) (et_test (ev_opK (z := .bl true) (ev_var (R := ROpt none) rfl) ev_c fun H Q q => ⟨rfl, q⟩)) (fun _ => ?_) (fun h => by cases h)
          refine sj_freeze (i := 3) rfl ?_
          have q' : RTn F0 H0 Q (RT [RK (.str "vector"), RPL K (kvP (pkN rows c).t c (pkN rows c).last w)]) := q
          exact sj_ret (ev_tup (ea2 ev_c (ev_call (ea_cons (ev_var rfl) (ea_cons (ev_var rfl) (ea_cons (ev_var rfl) (ea2 (ev_var rfl) (ev_var rfl))))) (us_kvec ((pkN rows c).t, c, (pkN rows c).last, w) hkv))) (by simp)) q'
    · rw [if_neg hcs]
      exact sj_no (i := 0) rfl
  · rw [Int.toNat_natCast]
    unfold pkCtx
    cases pa with
    | vec c =>
      have hcw := hy.2.2.cw
      rw [if_neg (show ¬ w ≤ PA.stop w (.vec c) by show ¬ w ≤ c; omega)]
      exact sj_no (i := 0) rfl
    | pt N m =>
      rw [if_pos (show w ≤ PA.stop w (.pt N m) from Nat.le_refl w)]
      have q' : RTn F0 H0 Q (RT [RK (.str "point"), RI (N : Int), RMX K m]) := q
      exact sj_ret (ev_call (ea2 (ev_var rfl) (ev_var rfl)) (us_invat (rows, w, N, m) hy.2)) q'
abbrev Pr_pkernel (P : Program) (w : World) (K : Frag) (mg : Str → Option Value) (base : Heap) : Prop := Pr P w K mg base 50 (ga K "poly_kernel") ["rows", "width"] [] (sp_pkernel K)
theorem ok_pkernel (N : En P K mg base) : Pr_pkernel P w K mg base := by
  obtain ⟨fd, F, h⟩ := fn_pkernel (w := w) N
  exact pr_mk F h (F.bindsN fun _ _ _ _ _ _ us hl => match us, hl with | [_, _], _ => rfl)
end
end G
end
section
set_option maxRecDepth 100000
set_option maxHeartbeats 4000000
namespace G
open PySem PySem.Spec PyProof.Rows L2 He
open _root_.RT (ItvT iRevA pi_revA)
section
variable {P : Program} {w : World} {K : Frag} {mg : Str → Option Value} {base : Heap}
abbrev RBs (K : Frag) (s : Bsum) : Rp := RN (cA K "BinomialSum") ["weight", "base", "choose", "rise", "central"] [RQ K s.w, RF K s.b, RI (s.ch : Int), RI (s.ri : Int), RI (s.ce : Int)]
section
variable {Γ : List Ty} {ta tb te : TE} {R : Rp} {s : Bsum} {x y : Q2} {a b La Lb Ma Mb : Nat}
theorem ev_Bw (T : Tx K mg) (h : EV Γ ta (RBs K s)) : EV Γ (tFld K ta "weight") (RQ K s.w) := ev_fld h (rn_has 0 (by decide) rfl rfl) T.c_B T.na_B_weight
theorem ev_Bb (T : Tx K mg) (h : EV Γ ta (RBs K s)) : EV Γ (tFld K ta "base") (RF K s.b) := ev_fld h (rn_has 1 (by decide) rfl rfl) T.c_B T.na_B_base
theorem ev_Bc (T : Tx K mg) (h : EV Γ ta (RBs K s)) : EV Γ (tFld K ta "choose") (RI (s.ch : Int)) := ev_fld h (rn_has 2 (by decide) rfl rfl) T.c_B T.na_B_choose
theorem ev_Br (T : Tx K mg) (h : EV Γ ta (RBs K s)) : EV Γ (tFld K ta "rise") (RI (s.ri : Int)) := ev_fld h (rn_has 3 (by decide) rfl rfl) T.c_B T.na_B_rise
theorem ev_Be (T : Tx K mg) (h : EV Γ ta (RBs K s)) : EV Γ (tFld K ta "central") (RI (s.ce : Int)) := ev_fld h (rn_has 4 (by decide) rfl rfl) T.c_B T.na_B_central
theorem ev_Qdk (h : EV Γ ta (RQ K x)) : EV Γ (tProp (cA K "Poly2") (sp_Qdk K) [] E0 ta) (RI (qDk x)) := ev_prop h (rn_no (m := "degree_k") (by decide)) (us_Qdk x trivial)
theorem ev_Qmul (h : EV Γ ta (RQ K x)) (h2 : EV Γ tb (RQ K y)) (hx : ZQ a La Ma x) (hy : ZQ b Lb Mb y) (hs : (Ma + 1) * (a + b + La + 3) < 130000000) (hl : La + Lb ≤ 100000) (hm : Ma + Mb ≤ 100000) :
    EV Γ (tOp (rOwn2 (cA K "Poly2") (sp_Qmul K)) ta tb) (RQ K (qMul x y)) := ev_own2 h h2 rn_is rn_is (us_Qmul (x, y) ⟨a, b, La, Lb, Ma, Mb, hx, hy, hs, hl, hm⟩)
theorem ev_Qadd (h : EV Γ ta (RQ K x)) (h2 : EV Γ tb (RQ K y)) (hx : ZQ a La Ma x) (hy : ZQ b Lb Mb y) (hs : a + b < 130000000) (h3 : La ≤ 100000) (h4 : Lb ≤ 100000) (h5 : Ma ≤ 100000) (h6 : Mb ≤ 100000) :
    EV Γ (tOp (rOwn2 (cA K "Poly2") (sp_Qadd K)) ta tb) (RQ K (qAdd x y)) := ev_own2 h h2 rn_is rn_is (us_Qadd (x, y) ⟨a, b, La, Lb, Ma, Mb, hx, hy, hs, h3, h4, h5, h6⟩)
theorem ev_Qsub (h : EV Γ ta (RQ K x)) (h2 : EV Γ tb (RQ K y)) (hx : ZQ a La Ma x) (hy : ZQ b Lb Mb y) (hs : a + b < 130000000) (h3 : La ≤ 100000) (h4 : Lb ≤ 100000) (h5 : Ma ≤ 100000) (h6 : Mb ≤ 100000) :
    EV Γ (tOp (rOwn2 (cA K "Poly2") (sp_Qsub K)) ta tb) (RQ K (qSub x y)) := ev_own2 h h2 rn_is rn_is (us_Qsub (x, y) ⟨a, b, La, Lb, Ma, Mb, hx, hy, hs, h3, h4, h5, h6⟩)
theorem ev_Qpow {n : Nat} (h : EV Γ ta (RQ K x)) (h2 : EV Γ tb (RI (n : Int))) (hn : n ≤ 100000) (h1 : ∀ i, i ≤ n → ZQ a La Ma (qPow x i)) (hx : ZQ b Lb Mb x) (hs : (Ma + 1) * (a + b + La + 3) < 130000000) (hl : La + Lb ≤ 100000) (hm : Ma + Mb ≤ 100000) :
    EV Γ (tMeth (cA K "Poly2") "power" (sp_Qpow K) [] E0 ta (tCons tb tNil)) (RQ K (qPow x n)) := ev_meth h (rn_no (by decide)) (ea1 h2) (us_Qpow (x, n) ⟨hn, a, b, La, Lb, Ma, Mb, h1, hx, hs, hl, hm⟩)
theorem ev_Qline {tc : TE} {i j k : Int} (h1 : EV Γ ta (RI i)) (h2 : EV Γ tb (RI j)) (h3 : EV Γ tc (RI k)) : EV Γ (tCall (sp_Qline K) [] E0 (tCons ta (tCons tb (tCons tc tNil)))) (RQ K (qLine i j k)) := ev_call (ea_cons h1 (ea2 h2 h3)) (us_Qline (i, j, k) trivial)
/-- a row of lines -/
theorem eo_lns {t : TA} {j : Nat} {p q lo' hi' : Int} {lo n : Nat} (h : EA Γ t [RI lo', RI hi']) (e1 : lo' = (lo : Int)) (e2 : hi' = ((lo + n : Nat) : Int)) (hb : lo + n ≤ 1000) (hj : ∀ T, Γ[j]? = some T → T.mov = false)
    (he : ∀ x : Int, EV (Γ.set j (.fz (RI x))) te (RQ K (qLine p q x))) : EO Γ (tLc (iRng2 t) (gName j) tYes te [j]) ((lns p q lo n).map (RQ K)) := by
  subst e1 e2
  refine eo_lc2 h (by omega) (by rw [List.length_map, lns_len]; omega) (by rw [List.length_map, lns_len]; omega) hj fun i R hR => ?_
  obtain ⟨hi, rfl⟩ := range_map hR
  rw [show ((lo : Int) + (i : Int)) = ((lo + i : Nat) : Int) by omega]
  exact he _
end
abbrev sn_Bi : List Str := ["self", "weight", "base", "choose", "rise", "central"]
theorem sc_Bi : FnScope sn_Bi ["self", "weight", "base", "choose", "rise", "central"] (defScope s_Bi) := ⟨rfl, rfl, rfl, by decide +kernel, rfl, by decide +kernel, by decide +kernel⟩
abbrev sp_Bi (K : Frag) : Sp := SpI (ι := Bsum) (cA K "BinomialSum") (fun s => s.w.length ≠ 0 ∧ s.b.num ≠ 0 ∧ 1 ≤ s.ch) (fun s => [RQ K s.w, RF K s.b, RI (s.ch : Int), RI (s.ri : Int), RI (s.ce : Int)]) (fun s => RBs K s)
theorem us_Bi {K : Frag} (i : Bsum) (h : (fun s => s.w.length ≠ 0 ∧ s.b.num ≠ 0 ∧ 1 ≤ s.ch) i) : ∀ vs H Q E, SpInit (cA K "BinomialSum") ((fun s => [RQ K s.w, RF K s.b, RI (s.ch : Int), RI (s.ri : Int), RI (s.ce : Int)]) i) ((fun s => RBs K s) i) vs H Q E → sp_Bi K vs H Q E := fun _ _ _ _ q => ⟨i, h, q⟩
abbrev Fn_Bi (P : Program) (w : World) (K : Frag) (mg : Str → Option Value) (base : Heap) : Prop := ∃ fd, DefF K "__init__" "BinomialSum.__init__" s_Bi [] [] (mA K "BinomialSum" "__init__") fd ∧ FnOk P w K mg base CX0 43 (mA K "BinomialSum" "__init__") fd ["self", "weight", "base", "choose", "rise", "central"] (sp_Bi K)
theorem fn_Bi (N : En P K mg base) : Fn_Bi P w K mg base := by
  have h_Qz := ok_Qz (w := w) N
  have h_Fz := ok_Fz (w := w) N
  obtain ⟨T, S, ns, tr⟩ := N
  obtain ⟨fd, F⟩ := S.def_ 76
  refine ⟨fd, F, def_okI F sc_Bi (fun _ => rfl) fun cdv A' outer s H E hr => ⟨_, (pss_cons (ps_if (PW.pt (pw_or (pt_val (pe_propP h_Qz hr (by decide) T.c_Q T.p_Qz (pv 1))) (pw_or (pt_val (pe_propP h_Fz hr (by decide) T.c_F T.p_Fz (pv 2))) (pw_or (pt_cmpR op_lt (pv 3) pe_int (nomark _)) (pw_or (pt_cmpR op_lt (pv 4) pe_int (nomark _)) (pw_or1 (pt_cmpR op_lt (pv 5) pe_int (nomark _)))))))) (pss_one ps_never) pss_nil)
      (pss_cons (ps_fld (pv 0) (pv 1) rfl)
      (pss_cons (ps_fld (pv 0) (pv 2) rfl)
      (pss_cons (ps_fld (pv 0) (pv 3) rfl)
      (pss_cons (ps_fld (pv 0) (pv 4) rfl)
      (pss_one (ps_fld (pv 0) (pv 5) rfl))))))), fun i hy F0 H0 Q a dx q => ?_⟩⟩
  obtain ⟨h1, h2, h3⟩ := hy
  refine q_skip (et_is (et_or (b := false) (et_B (ev_prop (R := RB (decide (i.w.length = 0))) (ev_var rfl) (rn_no (m := "is_zero") (by decide)) (us_Qz i.w trivial))) fun _ => et_is (et_or (b := false) (et_B (ev_Fz (ev_var rfl))) fun _ => et_is (et_or (b := false) (et_I (ev_var rfl) ev_c) fun _ => et_is (et_or (b := false) (et_I (ev_var rfl) ev_c) fun _ => et_is (et_I (ev_var rfl) ev_c) (decide_eq_false (by omega))) ?_) ?_) ?_) ?_) ?_
  · rw [decide_eq_false (by omega)]; rfl
  · rw [decide_eq_false (by omega)]; rfl
  · rw [decide_eq_false h2]; rfl
  · rw [decide_eq_false h1]; rfl
  refine q_fld rfl (ev_var rfl) T.c_B T.na_B_weight (by simp) rfl fun v => ?_
  refine q_fld rfl (ev_var rfl) T.c_B T.na_B_base (by simp) rfl fun v2 => ?_
  refine q_fld rfl (ev_var rfl) T.c_B T.na_B_choose (by simp) rfl fun v3 => ?_
  refine q_fld rfl (ev_var rfl) T.c_B T.na_B_rise (by simp) rfl fun v4 => ?_
  refine sj_fld rfl (ev_var rfl) T.c_B T.na_B_central (by simp) rfl fun v5 => ?_
  exact nx_made (i := 0) (ns := ["weight", "base", "choose", "rise", "central"]) rfl rfl q
abbrev Pr_Bi (P : Program) (w : World) (K : Frag) (mg : Str → Option Value) (base : Heap) : Prop := PrK P w K mg base 43 (mA K "BinomialSum" "__init__") ["self", "weight", "base", "choose", "rise", "central"] 3 ["choose", "rise", "central"] (sp_Bi K)
theorem ok_Bi (N : En P K mg base) : Pr_Bi P w K mg base := by
  obtain ⟨fd, F, h⟩ := fn_Bi (w := w) N
  exact ⟨fd, h, kbindsN F 3 fun _ _ _ _ _ _ us ws h1 h2 => match us, ws, h1, h2 with | [_, _, _], [_, _, _], _, _ => rfl, F.kp⟩
abbrev sn_Bfac : List Str := ["self"]
theorem sc_Bfac : FnScope sn_Bfac ["self"] (defScope s_Bfac) := ⟨rfl, rfl, rfl, by decide +kernel, rfl, by decide +kernel, by decide +kernel⟩
abbrev sp_Bfac (K : Frag) : Sp := SpG (ι := Bsum) (fun _ => True) (fun s => [RBs K s]) (fun s => RI (facs s : Int))
theorem us_Bfac {K : Frag} (i : Bsum) (h : (fun _ => True) i) : ∀ vs H Q E, SpF ((fun s => [RBs K s]) i) ((fun s => RI (facs s : Int)) i) vs H Q E → sp_Bfac K vs H Q E := fun _ _ _ _ q => ⟨i, h, q⟩
abbrev Fn_Bfac (P : Program) (w : World) (K : Frag) (mg : Str → Option Value) (base : Heap) : Prop := ∃ fd, DefF K "factors" "BinomialSum.factors" s_Bfac [] [] (pA K "BinomialSum" "factors") fd ∧ FnOk P w K mg base CX0 41 (pA K "BinomialSum" "factors") fd ["self"] (sp_Bfac K)
theorem fn_Bfac (N : En P K mg base) : Fn_Bfac P w K mg base := by
  obtain ⟨T, S, ns, tr⟩ := N
  obtain ⟨fd, F⟩ := S.def_ 77
  refine ⟨fd, F, def_ok F sc_Bfac (fun _ => rfl) fun cdv A' outer s H E hr => ⟨_, (pss_one (ps_ret (pe_op op_add (pe_op op_add (pe_fld (pv 0) rfl) (pe_fld (pv 0) rfl)) (pe_fld (pv 0) rfl)))), fun i hy F0 H0 Q q => ?_⟩⟩
  refine sj_ret (ev_i (ev_add (ev_add (ev_Bc T (ev_var rfl)) (ev_Br T (ev_var rfl))) (ev_Be T (ev_var rfl))) ?_) q
  unfold facs
  omega
abbrev Pr_Bfac (P : Program) (w : World) (K : Frag) (mg : Str → Option Value) (base : Heap) : Prop := Pr P w K mg base 41 (pA K "BinomialSum" "factors") ["self"] [] (sp_Bfac K)
theorem ok_Bfac (N : En P K mg base) : Pr_Bfac P w K mg base := by
  obtain ⟨fd, F, h⟩ := fn_Bfac (w := w) N
  exact pr_mk F h (F.bindsN fun _ _ _ _ _ _ us hl => match us, hl with | [_], _ => rfl)
abbrev sn_column : List Str := ["binomial_sum", "order", "j", "low", "high", "choose", "rise", "result", "i"]
theorem sc_column : FnScope sn_column ["binomial_sum", "order", "j"] (defScope s_column) := ⟨rfl, rfl, rfl, by decide +kernel, rfl, by decide +kernel, by decide +kernel⟩
abbrev sp_column (K : Frag) : Sp := SpG (ι := Bsum × Nat × Nat) (fun p => BOk p.1 ∧ p.2.1 ≤ 2 ∧ p.2.2 ≤ p.2.1) (fun p => [RBs K p.1, RI (p.2.1 : Int), RI (p.2.2 : Int)]) (fun p => RQ K (column p.1 p.2.1 p.2.2))
theorem us_column {K : Frag} (i : Bsum × Nat × Nat) (h : (fun p => BOk p.1 ∧ p.2.1 ≤ 2 ∧ p.2.2 ≤ p.2.1) i) : ∀ vs H Q E, SpF ((fun p => [RBs K p.1, RI (p.2.1 : Int), RI (p.2.2 : Int)]) i) ((fun p => RQ K (column p.1 p.2.1 p.2.2)) i) vs H Q E → sp_column K vs H Q E := fun _ _ _ _ q => ⟨i, h, q⟩
abbrev Fn_column (P : Program) (w : World) (K : Frag) (mg : Str → Option Value) (base : Heap) : Prop := ∃ fd, DefF K "column" "column" s_column [] [] (ga K "column") fd ∧ FnOk P w K mg base CX0 47 (ga K "column") fd ["binomial_sum", "order", "j"] (sp_column K)
theorem fn_column (N : En P K mg base) : Fn_column P w K mg base := by
  have h_Qline := ok_Qline (w := w) N
  have h_Qmoved := ok_Qmoved (w := w) N
  have h_prod2 := ok_prod2 (w := w) N
  have h_Qpow := ok_Qpow (w := w) N
  have h_Qmul := ok_Qmul (w := w) N
  obtain ⟨T, S, ns, tr⟩ := N
  obtain ⟨fd, F⟩ := S.def_ 66
  refine ⟨fd, F, def_ok F sc_column (fun _ => rfl) fun cdv A' outer s H E hr => ⟨_, (pss_cons (ps_setLc (i := 3) (own := [("i", 8)]) (g := gName 8) (by rfl) sc_column.nd rfl rfl (sw_true rfl rfl rfl (by decide +kernel)) (pi_range2 (by rfl) T.n_range (pa_cons pe_int (pa_cons (pe_op op_add (pv 2) pe_int) pa_nil))) (blkOk_by (own := [("i", 8)]) (N := sn_column) (sc := defScope s_column) (by decide +kernel)) (fun _ _ _ _ _ => (pg_name (i := 8) sc_column.nd rfl (by first | exact Or.inl rfl | exact Or.inr rfl))) (fun _ _ _ _ _ => pts_nil) (fun _ _ _ _ _ => (pe_stat h_Qline T.s_Qline hr (by decide) rfl T.g_Q (pa_cons pe_int (pa_cons pe_int (pa_cons (pv 8) pa_nil))))))
      (pss_cons (ps_setLc (i := 4) (own := [("i", 8)]) (g := gName 8) (by rfl) sc_column.nd rfl rfl (sw_true rfl rfl rfl (by decide +kernel)) (pi_range2 (by rfl) T.n_range (pa_cons (pe_op op_add (pv 2) pe_int) (pa_cons (pe_op op_add (pv 1) pe_int) pa_nil))) (blkOk_by (own := [("i", 8)]) (N := sn_column) (sc := defScope s_column) (by decide +kernel)) (fun _ _ _ _ _ => (pg_name (i := 8) sc_column.nd rfl (by first | exact Or.inl rfl | exact Or.inr rfl))) (fun _ _ _ _ _ => pts_nil) (fun _ _ _ _ _ => (pe_stat h_Qline T.s_Qline hr (by decide) rfl T.g_Q (pa_cons pe_int (pa_cons pe_int (pa_cons (pv 8) pa_nil))))))
      (pss_cons (ps_set (i := 5) sc_column.nd rfl (Or.inl rfl) (pe_op op_cat (pv 3) (pe_lc (own := [("i", 8)]) (g := gName 8) (by rfl) sc_column.nd (pi_range2 (by rfl) T.n_range (pa_cons (pe_op op_add (pv 2) pe_int) (pa_cons (pe_op op_add (pv 1) pe_int) pa_nil))) (blkOk_by (own := [("i", 8)]) (N := sn_column) (sc := defScope s_column) (by decide +kernel)) (fun _ _ _ _ _ => (pg_name (i := 8) sc_column.nd rfl (by first | exact Or.inl rfl | exact Or.inr rfl))) (fun _ _ _ _ _ => pts_nil) (fun _ _ _ _ _ => (pe_stat h_Qline T.s_Qline hr (by decide) rfl T.g_Q (pa_cons pe_int (pa_cons (pe_un un_neg pe_int) (pa_cons (pv 8) pa_nil))))))))
      (pss_cons (ps_set (i := 6) sc_column.nd rfl (Or.inl rfl) (pe_op op_cat (pe_lc (own := [("i", 8)]) (g := gName 8) (by rfl) sc_column.nd (pi_range2 (by rfl) T.n_range (pa_cons pe_int (pa_cons (pe_op op_add (pv 2) pe_int) pa_nil))) (blkOk_by (own := [("i", 8)]) (N := sn_column) (sc := defScope s_column) (by decide +kernel)) (fun _ _ _ _ _ => (pg_name (i := 8) sc_column.nd rfl (by first | exact Or.inl rfl | exact Or.inr rfl))) (fun _ _ _ _ _ => pts_nil) (fun _ _ _ _ _ => (pe_stat h_Qline T.s_Qline hr (by decide) rfl T.g_Q (pa_cons pe_int (pa_cons pe_int (pa_cons (pv 8) pa_nil)))))) (pv 4)))
      (pss_cons (ps_set (i := 7) sc_column.nd rfl (Or.inl rfl) (pe_methP h_Qmoved hr (by decide) T.c_Q T.m_Qmoved (pe_fld (pv 0) rfl) (pa_cons (pv 2) (pa_cons pe_int pa_nil))))
      (pss_cons (ps_set (i := 7) sc_column.nd rfl (Or.inl rfl) (pe_op (op_bin h_Qmul T.o_Qmul.at_ T.o_Qmul.fn T.f_Q hr (by decide)) (pv 7) (pe_methP h_Qpow hr (by decide) T.c_Q T.m_Qpow (pe_callP h_prod2 hr (by decide) rfl T.g_prod2 (pa_cons (pv 5) pa_nil)) (pa_cons (pe_fld (pv 0) rfl) pa_nil))))
      (pss_one (ps_ret (pe_op (op_bin h_Qmul T.o_Qmul.at_ T.o_Qmul.fn T.f_Q hr (by decide)) (pv 7) (pe_methP h_Qpow hr (by decide) T.c_Q T.m_Qpow (pe_callP h_prod2 hr (by decide) rfl T.g_prod2 (pa_cons (pv 6) pa_nil)) (pa_cons (pe_fld (pv 0) rfl) pa_nil))))))))))), fun i hy F0 H0 Q q => ?_⟩⟩
  obtain ⟨s, J, j⟩ := i
  replace hy : BOk s ∧ J ≤ 2 ∧ j ≤ J := hy
  change SJ F0 H0 _ (ctx [RBs K s, RI (J : Int), RI (j : Int)] _) _
  obtain ⟨hb, hJ, hj⟩ := hy
  have hfs := hb.fs
  have l1 := colCh_len hj
  have l2 := colRi_len hj
  refine q_asg (EO.ev (eo_lns (p := 1) (q := 0) (lo := 1) (n := j) (ea2 ev_c (ev_add (ev_var rfl) ev_c)) rfl (by omega) (by omega) (fun T hT => cond_mov rfl rfl hT) fun x => ev_Qline ev_c ev_c (ev_var rfl))) ?_
  refine q_asg (EO.ev (eo_lns (p := 1) (q := 0) (lo := j + 1) (n := J - j) (ea2 (ev_add (ev_var rfl) ev_c) (ev_add (ev_var rfl) ev_c)) (by omega) (by omega) (by omega) (fun T hT => cond_mov rfl rfl hT) fun x => ev_Qline ev_c ev_c (ev_var rfl))) ?_
  refine q_asg (R := RL ((colCh J j).map (RQ K))) (ev_r (EO.ev (eo_catF (ev_var rfl) (EO.ev (eo_lns (p := 1) (q := -1) (lo := j + 1) (n := J - j) (ea2 (ev_add (ev_var rfl) ev_c) (ev_add (ev_var rfl) ev_c)) (by omega) (by omega) (by omega) (fun T hT => cond_mov rfl rfl hT) fun x => ev_Qline ev_c (ev_neg ev_c) (ev_var rfl))) ?_)) ?_) ?_
  · rw [List.length_map, List.length_map, lns_len, lns_len]; omega
  · rw [← List.map_append]; rfl
  refine q_asg (R := RL ((colRi J j).map (RQ K))) (ev_r (EO.ev (eo_catF (EO.ev (eo_lns (p := 1) (q := 1) (lo := 1) (n := j) (ea2 ev_c (ev_add (ev_var rfl) ev_c)) rfl (by omega) (by omega) (fun T hT => cond_mov rfl rfl hT) fun x => ev_Qline ev_c ev_c (ev_var rfl))) (ev_var rfl) ?_)) ?_) ?_
  · rw [List.length_map, List.length_map, lns_len, lns_len]; omega
  · rw [← List.map_append]; rfl
  refine q_asg (ev_meth (ev_Bw T (ev_var rfl)) (rn_no (by decide)) (ea2 (ev_var rfl) ev_c) (us_Qmoved (s.w, (j : Int), 0) ⟨2, 1, 2, 2, hb.w, lg_lt (by show ((j : Int)).natAbs < 4; omega), show lg 0 ≤ 1 by decide, by decide, by decide, by decide⟩)) ?_
  refine q_asg (ev_Qmul (ev_var rfl) (ev_Qpow (ev_call (ea1 (ev_var rfl)) (us_prod2 (colCh J j) ⟨42, 2, 5, 2, 5, 2, prod_sz (by omega) (colCh_sz hj hJ), prod_get (colCh_sz hj hJ), by decide, by decide, by decide⟩)) (ev_Bc T (ev_var rfl)) (by omega) (fun i hi => pow2_sz (chP_sz hJ hj) i (by omega)) (chP_sz hJ hj) (by decide) (by decide) (by decide)) (moved_sz hb (by omega)).z (pow2_sz (chP_sz hJ hj) s.ch (by omega)) (by decide) (by decide) (by decide)) ?_
  exact sj_ret (ev_Qmul (ev_var rfl) (ev_Qpow (ev_call (ea1 (ev_var rfl)) (us_prod2 (colRi J j) ⟨42, 2, 5, 2, 5, 2, prod_sz (by omega) (colRi_sz hj hJ), prod_get (colRi_sz hj hJ), by decide, by decide, by decide⟩)) (ev_Br T (ev_var rfl)) (by omega) (fun i hi => pow2_sz (riP_sz hJ hj) i (by omega)) (riP_sz hJ hj) (by decide) (by decide) (by decide)) (col1_sz hb hJ hj) (pow2_sz (riP_sz hJ hj) s.ri (by omega)) (by decide) (by decide) (by decide)) q
abbrev Pr_column (P : Program) (w : World) (K : Frag) (mg : Str → Option Value) (base : Heap) : Prop := Pr P w K mg base 47 (ga K "column") ["binomial_sum", "order", "j"] [] (sp_column K)
theorem ok_column (N : En P K mg base) : Pr_column P w K mg base := by
  obtain ⟨fd, F, h⟩ := fn_column (w := w) N
  exact pr_mk F h (F.bindsN fun _ _ _ _ _ _ us hl => match us, hl with | [_, _, _], _ => rfl)
abbrev sn_forward : List Str := ["binomial_sum", "order", "result"]
theorem sc_forward : FnScope sn_forward ["binomial_sum", "order"] (defScope s_forward) := ⟨rfl, rfl, rfl, by decide +kernel, rfl, by decide +kernel, by decide +kernel⟩
abbrev sp_forward (K : Frag) : Sp := SpG (ι := Bsum × Nat) (fun p => BOk p.1 ∧ p.2 ≤ 2) (fun p => [RBs K p.1, RI (p.2 : Int)]) (fun p => RQ K (forward p.1 p.2))
theorem us_forward {K : Frag} (i : Bsum × Nat) (h : (fun p => BOk p.1 ∧ p.2 ≤ 2) i) : ∀ vs H Q E, SpF ((fun p => [RBs K p.1, RI (p.2 : Int)]) i) ((fun p => RQ K (forward p.1 p.2)) i) vs H Q E → sp_forward K vs H Q E := fun _ _ _ _ q => ⟨i, h, q⟩
abbrev Fn_forward (P : Program) (w : World) (K : Frag) (mg : Str → Option Value) (base : Heap) : Prop := ∃ fd, DefF K "forward" "forward" s_forward [] [] (ga K "forward") fd ∧ FnOk P w K mg base CX0 47 (ga K "forward") fd ["binomial_sum", "order"] (sp_forward K)
theorem fn_forward (N : En P K mg base) : Fn_forward P w K mg base := by
  have h_Qinn := ok_Qinn (w := w) N
  have h_Pconst := ok_Pconst (w := w) N
  have h_Qline := ok_Qline (w := w) N
  have h_Qpow := ok_Qpow (w := w) N
  have h_Qmul := ok_Qmul (w := w) N
  obtain ⟨T, S, ns, tr⟩ := N
  obtain ⟨fd, F⟩ := S.def_ 67
  refine ⟨fd, F, def_ok F sc_forward (fun _ => rfl) fun cdv A' outer s H E hr => ⟨_, (pss_cons (ps_set (i := 2) sc_forward.nd rfl (Or.inl rfl) (pe_stat h_Qinn T.s_Qinn hr (by decide) rfl T.g_Q (pa_cons (pe_stat h_Pconst T.s_Pconst hr (by decide) rfl T.g_P (pa_cons (pe_fld (pv 0) rfl) pa_nil)) pa_nil)))
      (pss_cons (ps_set (i := 2) sc_forward.nd rfl (Or.inl rfl) (pe_op (op_bin h_Qmul T.o_Qmul.at_ T.o_Qmul.fn T.f_Q hr (by decide)) (pv 2) (pe_methP h_Qpow hr (by decide) T.c_Q T.m_Qpow (pe_stat h_Qline T.s_Qline hr (by decide) rfl T.g_Q (pa_cons pe_int (pa_cons (pe_un un_neg pe_int) (pa_cons (pv 1) pa_nil)))) (pa_cons (pe_fld (pv 0) rfl) pa_nil))))
      (pss_cons (ps_set (i := 2) sc_forward.nd rfl (Or.inl rfl) (pe_op (op_bin h_Qmul T.o_Qmul.at_ T.o_Qmul.fn T.f_Q hr (by decide)) (pv 2) (pe_methP h_Qpow hr (by decide) T.c_Q T.m_Qpow (pe_stat h_Qline T.s_Qline hr (by decide) rfl T.g_Q (pa_cons pe_int (pa_cons pe_int (pa_cons pe_int pa_nil)))) (pa_cons (pe_fld (pv 0) rfl) pa_nil))))
      (pss_one (ps_ret (pe_op (op_bin h_Qmul T.o_Qmul.at_ T.o_Qmul.fn T.f_Q hr (by decide)) (pv 2) (pe_methP h_Qpow hr (by decide) T.c_Q T.m_Qpow (pe_stat h_Qline T.s_Qline hr (by decide) rfl T.g_Q (pa_cons pe_int (pa_cons pe_int (pa_cons pe_int pa_nil)))) (pa_cons (pe_fld (pv 0) rfl) pa_nil)))))))), fun i hy F0 H0 Q q => ?_⟩⟩
  obtain ⟨s, J⟩ := i
  replace hy : BOk s ∧ J ≤ 2 := hy
  change SJ F0 H0 _ (ctx [RBs K s, RI (J : Int)] _) _
  obtain ⟨hb, hJ⟩ := hy
  have hfs := hb.fs
  have z1 : ZQ 2 2 2 (qLine 1 (-1) (J : Int)) := zq_line2 (lg_small (by decide) (by decide)) (lg_small (by decide) (by decide)) (lg_small (by omega) (by omega))
  have z2 : ZQ 2 2 2 (qLine 1 1 1) := zq_line2 (lg_small (by decide) (by decide)) (lg_small (by decide) (by decide)) (lg_small (by decide) (by decide))
  have z3 : ZQ 2 2 2 (qLine 0 4 2) := zq_line2 (lg_small (by decide) (by decide)) (lg_small (by decide) (by decide)) (lg_small (by decide) (by decide))
  have h0 : ZQ 2 1 1 (qInN (pConst s.b)) := zq_inN ⟨sz_pConst hb.b, Nat.le_trans (len_mkP_le _ _) (Nat.le_refl _)⟩
  refine q_asg (ev_call (ea1 (ev_call (ea1 (ev_Bb T (ev_var rfl))) (us_Pconst s.b hb.b.1))) (us_Qinn (pConst s.b) trivial)) ?_
  refine q_asg (ev_Qmul (ev_var rfl) (ev_Qpow (ev_Qline ev_c (ev_neg ev_c) (ev_var rfl)) (ev_Bc T (ev_var rfl)) (by omega) (fun i hi => pow2_sz z1 i (by omega)) z1 (by decide) (by decide) (by decide)) h0 (pow2_sz z1 s.ch (by omega)) (by decide) (by decide) (by decide)) ?_
  refine q_asg (ev_Qmul (ev_var rfl) (ev_Qpow (ev_Qline ev_c ev_c ev_c) (ev_Br T (ev_var rfl)) (by omega) (fun i hi => pow2_sz z2 i (by omega)) z2 (by decide) (by decide) (by decide)) (fw1_sz hb hJ) (pow2_sz z2 s.ri (by omega)) (by decide) (by decide) (by decide)) ?_
  exact sj_ret (ev_Qmul (ev_var rfl) (ev_Qpow (ev_Qline ev_c ev_c ev_c) (ev_Be T (ev_var rfl)) (by omega) (fun i hi => pow2_sz z3 i (by omega)) z3 (by decide) (by decide) (by decide)) (fw2_sz hb hJ) (pow2_sz z3 s.ce (by omega)) (by decide) (by decide) (by decide)) q
abbrev Pr_forward (P : Program) (w : World) (K : Frag) (mg : Str → Option Value) (base : Heap) : Prop := Pr P w K mg base 47 (ga K "forward") ["binomial_sum", "order"] [] (sp_forward K)
theorem ok_forward (N : En P K mg base) : Pr_forward P w K mg base := by
  obtain ⟨fd, F, h⟩ := fn_forward (w := w) N
  exact pr_mk F h (F.bindsN fun _ _ _ _ _ _ us hl => match us, hl with | [_, _], _ => rfl)
abbrev sn_backward : List Str := ["binomial_sum"]
theorem sc_backward : FnScope sn_backward ["binomial_sum"] (defScope s_backward) := ⟨rfl, rfl, rfl, by decide +kernel, rfl, by decide +kernel, by decide +kernel⟩
abbrev sp_backward (K : Frag) : Sp := SpG (ι := Bsum) (fun s => BOk s) (fun s => [RBs K s]) (fun s => RQ K (backward s))
theorem us_backward {K : Frag} (i : Bsum) (h : (fun s => BOk s) i) : ∀ vs H Q E, SpF ((fun s => [RBs K s]) i) ((fun s => RQ K (backward s)) i) vs H Q E → sp_backward K vs H Q E := fun _ _ _ _ q => ⟨i, h, q⟩
abbrev Fn_backward (P : Program) (w : World) (K : Frag) (mg : Str → Option Value) (base : Heap) : Prop := ∃ fd, DefF K "backward" "backward" s_backward [] [] (ga K "backward") fd ∧ FnOk P w K mg base CX0 47 (ga K "backward") fd ["binomial_sum"] (sp_backward K)
theorem fn_backward (N : En P K mg base) : Fn_backward P w K mg base := by
  have h_Qline := ok_Qline (w := w) N
  have h_Qpow := ok_Qpow (w := w) N
  have h_Bfac := ok_Bfac (w := w) N
  obtain ⟨T, S, ns, tr⟩ := N
  obtain ⟨fd, F⟩ := S.def_ 68
  refine ⟨fd, F, def_ok F sc_backward (fun _ => rfl) fun cdv A' outer s H E hr => ⟨_, (pss_one (ps_ret (pe_methP h_Qpow hr (by decide) T.c_Q T.m_Qpow (pe_stat h_Qline T.s_Qline hr (by decide) rfl T.g_Q (pa_cons pe_int (pa_cons pe_int (pa_cons pe_int pa_nil)))) (pa_cons (pe_propP h_Bfac hr (by decide) T.c_B T.p_Bfac (pv 0)) pa_nil)))), fun i hy F0 H0 Q q => ?_⟩⟩
  exact sj_ret (ev_Qpow (ev_Qline ev_c ev_c ev_c) (ev_prop (R := RI (facs i : Int)) (ev_var rfl) (rn_no (m := "factors") (by decide)) (us_Bfac i trivial)) (by have := hy.fs; unfold facs; omega) (fun j hj => pow2_sz l0_sz j (by have := hy.fs; unfold facs at hj; omega)) l0_sz (by decide) (by decide) (by decide)) q
abbrev Pr_backward (P : Program) (w : World) (K : Frag) (mg : Str → Option Value) (base : Heap) : Prop := Pr P w K mg base 47 (ga K "backward") ["binomial_sum"] [] (sp_backward K)
theorem ok_backward (N : En P K mg base) : Pr_backward P w K mg base := by
  obtain ⟨fd, F, h⟩ := fn_backward (w := w) N
  exact pr_mk F h (F.bindsN fun _ _ _ _ _ _ us hl => match us, hl with | [_], _ => rfl)
abbrev sn_cdeg : List Str := ["binomial_sum", "order", "degrees", "bound", "lead", "j"]
theorem sc_cdeg : FnScope sn_cdeg ["binomial_sum", "order"] (defScope s_cdeg) := ⟨rfl, rfl, rfl, by decide +kernel, rfl, by decide +kernel, by decide +kernel⟩
abbrev sp_cdeg (K : Frag) : Sp := SpG (ι := Bsum × Nat) (fun p => BOk p.1 ∧ p.2 ≤ 2) (fun p => [RBs K p.1, RI (p.2 : Int)]) (fun p => RI (cdeg p.1 p.2))
theorem us_cdeg {K : Frag} (i : Bsum × Nat) (h : (fun p => BOk p.1 ∧ p.2 ≤ 2) i) : ∀ vs H Q E, SpF ((fun p => [RBs K p.1, RI (p.2 : Int)]) i) ((fun p => RI (cdeg p.1 p.2)) i) vs H Q E → sp_cdeg K vs H Q E := fun _ _ _ _ q => ⟨i, h, q⟩
abbrev Fn_cdeg (P : Program) (w : World) (K : Frag) (mg : Str → Option Value) (base : Heap) : Prop := ∃ fd, DefF K "certificate_degree" "certificate_degree" s_cdeg [] [] (ga K "certificate_degree") fd ∧ FnOk P w K mg base CX0 48 (ga K "certificate_degree") fd ["binomial_sum", "order"] (sp_cdeg K)
theorem fn_cdeg (N : En P K mg base) : Fn_cdeg P w K mg base := by
  have h_column := ok_column (w := w) N
  have h_Qdk := ok_Qdk (w := w) N
  have h_Bfac := ok_Bfac (w := w) N
  have h_Fi := ok_Fi (w := w) N
  have h_Fi1 := ok_Fi1 (w := w) N
  have h_Fpow := ok_Fpow (w := w) N
  have h_Fmul := ok_Fmul (w := w) N
  have h_Feq := ok_Feq (w := w) N
  obtain ⟨T, S, ns, tr⟩ := N
  obtain ⟨fd, F⟩ := S.def_ 69
  refine ⟨fd, F, def_ok F sc_cdeg (fun _ => rfl) fun cdv A' outer s H E hr => ⟨_, (pss_cons (ps_setLc (i := 2) (own := [("j", 5)]) (g := gName 5) (by rfl) sc_cdeg.nd rfl rfl (sw_true rfl rfl rfl (by decide +kernel)) (pi_range1 rfl T.n_range (pa_cons (pe_op op_add (pv 1) pe_int) pa_nil)) (blkOk_by (own := [("j", 5)]) (N := sn_cdeg) (sc := defScope s_cdeg) (by decide +kernel)) (fun _ _ _ _ _ => (pg_name (i := 5) sc_cdeg.nd rfl (by first | exact Or.inl rfl | exact Or.inr rfl))) (fun _ _ _ _ _ => pts_nil) (fun _ _ _ _ _ => (pe_propP h_Qdk hr (by decide) T.c_Q T.p_Qdk (pe_callP h_column hr (by decide) rfl T.g_column (pa_cons (pv 0) (pa_cons (pv 1) (pa_cons (pv 5) pa_nil)))))))
      (pss_cons (ps_set (i := 3) sc_cdeg.nd rfl (Or.inl rfl) (pe_op op_sub (pe_callB (cr_max rfl) (by rfl) T.n_max bt_max (pa_cons (pv 2) pa_nil)) (pe_propP h_Bfac hr (by decide) T.c_B T.p_Bfac (pv 0))))
      (pss_cons (ps_set (i := 4) sc_cdeg.nd rfl (Or.inl rfl) (pe_op (op_bin h_Fmul T.o_Fmul.at_ T.o_Fmul.fn T.f_F hr (by decide)) (pe_op (op_bin h_Fmul T.o_Fmul.at_ T.o_Fmul.fn T.f_F hr (by decide)) (pe_fld (pv 0) rfl) (pe_methP h_Fpow hr (by decide) T.c_F T.m_Fpow (pe_makeP h_Fi1 hr (by decide) T.mk_F rfl T.g_F (pa_cons (pe_un un_neg pe_int) pa_nil)) (pa_cons (pe_fld (pv 0) rfl) pa_nil))) (pe_methP h_Fpow hr (by decide) T.c_F T.m_Fpow (pe_makeP h_Fi1 hr (by decide) T.mk_F rfl T.g_F (pa_cons pe_int pa_nil)) (pa_cons (pe_fld (pv 0) rfl) pa_nil))))
      (pss_cons (ps_if (pt_cmpR (op_eqOwn h_Feq T.o_Feq.at_ T.o_Feq.fn hr (by decide)) (pv 4) (pe_makeP h_Fi1 hr (by decide) T.mk_F rfl T.g_F (pa_cons pe_int pa_nil)) (nomark _)) (pss_cons (ps_set (i := 3) sc_cdeg.nd rfl (Or.inl rfl) (pe_op op_add (pv 3) pe_int))
      (pss_one (ps_if (PW.pt (pw_and (pt_cmpR op_eq (pe_fld (pv 0) rfl) (pe_fld (pv 0) rfl) (nomark _)) (pw_and1 (pt_cmpR op_eq (pe_op op_and (pe_fld (pv 0) rfl) pe_int) pe_int (nomark _))))) (pss_one (ps_set (i := 3) sc_cdeg.nd rfl (Or.inl rfl) (pe_callB (cr_max2 rfl) (by rfl) T.n_max bt_max (pa_cons (pv 3) (pa_cons (pe_op op_sub (pe_op op_mulB (pe_fld (pv 0) rfl) (pe_op op_sub (pv 1) pe_int)) (pe_op (op_fdivP (qu_of ns tr sc_cdeg) hr (by decide)) (pe_fld (pv 0) rfl) pe_int)) pa_nil))))) pss_nil))) pss_nil)
      (pss_one (ps_ret (pe_callB (cr_max2 rfl) (by rfl) T.n_max bt_max (pa_cons (pv 3) (pa_cons (pe_un un_neg pe_int) pa_nil))))))))), fun i hy F0 H0 Q q => ?_⟩⟩
  obtain ⟨s, J⟩ := i
  replace hy : BOk s ∧ J ≤ 2 := hy
  change SJ F0 H0 _ (ctx [RBs K s, RI (J : Int)] _) _
  obtain ⟨hb, hJ⟩ := hy
  have hfs := hb.fs
  have hc1 := hb.c1
  have hcl : (cdegs s J).length = J + 1 := by unfold cdegs; rw [List.length_map, List.length_range]
  obtain ⟨m1, m2⟩ := maxOf_spec (l := cdegs s J) (by omega)
  refine q_asg (EO.ev (eo_lc1 (n := ((J + 1 : Nat) : Int)) (Rs := (cdegs s J).map RI) (ea1 (ev_i (ev_add (ev_var rfl) ev_c) (by omega))) (by omega) (by rw [List.length_map, hcl]; omega) (by omega) (fun T hT => cond_mov rfl rfl hT) fun j R hR => ?_)) ?_
  · unfold cdegs at hR
    obtain ⟨hj, rfl⟩ := range_map hR
    exact ev_Qdk (ev_call (ea_cons (ev_var rfl) (ea2 (ev_var rfl) (ev_var rfl))) (us_column (s, J, j) ⟨hb, hJ, by show j ≤ J; omega⟩))
  refine q_asg (R := RI (cdegB s J)) (ev_sub (ev_maxF (ev_var rfl) (by omega) (maxOf (cdegs s J)) m1 m2) (ev_prop (R := RI (facs s : Int)) (ev_var rfl) (rn_no (m := "factors") (by decide)) (us_Bfac s trivial))) ?_
  have f1z : SzF 0 (mkF (-1) 1) := sz_mkF (by decide) (by decide) (by decide)
  have f4z : SzF 2 (mkF 4 1) := sz_mkF (by decide) (by decide) (by decide)
  have p1z : SzF 2 (fPow (mkF (-1) 1) s.ch) := (sz_fPow f1z s.ch).mono (by omega)
  have p4z : SzF 6 (fPow (mkF 4 1) s.ce) := (sz_fPow f4z s.ce).mono (by omega)
  refine q_asg (R := RF K (leadB s)) (ev_Fmul (ev_Fmul (ev_Bb T (ev_var rfl)) (ev_meth (ev_F1 (ev_neg ev_c)) (rn_no (by decide)) (ea1 (ev_Bc T (ev_var rfl))) (us_Fpow (mkF (-1) 1, s.ch) ⟨by show s.ch ≤ 1000000; omega, 0, f1z, by show (s.ch + 1) * 1 < 130000000; omega⟩)) hb.b p1z (by decide)) (ev_meth (ev_F1 ev_c) (rn_no (by decide)) (ea1 (ev_Be T (ev_var rfl))) (us_Fpow (mkF 4 1, s.ce) ⟨by show s.ce ≤ 1000000; omega, 2, f4z, by show (s.ce + 1) * 3 < 130000000; omega⟩)) (sz_fMul hb.b p1z) p4z (by decide)) ?_
  have rest : SJ F0 H0 { nx := fun _ H' => Q .non H', rt := Q } [.fz (RBs K s), .fz (RI (J : Int)), .fz (RL ((cdegs s J).map RI)), .fz (RI (cdegC s J)), .fz (RF K (leadB s)), .any] (tRet (tCB rMax2 (tCons (tVar 3) (tCons (tUn (rU fun i => .int (-i)) (tC (.int 1))) tNil)))) := sj_ret (ev_max2 (ev_var rfl) (ev_neg ev_c)) q
  have elead : EV [.fz (RBs K s), .fz (RI (J : Int)), .fz (RL ((cdegs s J).map RI)), .fz (RI (cdegB s J)), .fz (RF K (leadB s)), .any] (tOp (rOwn2 (cA K "Fraction") (sp_Feq K)) (tVar 4) (tMake (cA K "Fraction") (sp_Fi K) [.int 1] E0 (tCons (tC (.int 1)) tNil))) (RB (decide (leadB s = f1))) := ev_own2 (ev_var rfl) (ev_F1 ev_c) rn_is rn_is (us_Feq (leadB s, f1) trivial)
  refine q_if (et_test elead) (fun hl => ?_) fun hl => ?_
  · have hl' := of_decide_eq_true hl
    refine q_asg (ev_add (ev_var rfl) ev_c) ?_
    have hce : s.ce = 0 ∨ s.ce = 1 := by omega
    have hand : decide (Builtin.bitAnd (s.ce : Int) 1 = 0) = decide (s.ce % 2 = 0) := by
      rcases hce with h | h <;> rw [h] <;> decide
    refine sj_if (et_is (et_and (b := decide (s.ce % 2 = 0)) (et_eqI (ev_Bc T (ev_var rfl)) (ev_Br T (ev_var rfl))) fun _ => et_is (et_eqI (ev_I (ev_Be T (ev_var rfl)) ev_c) ev_c) hand) (c := decide (s.ch = s.ri ∧ s.ce % 2 = 0)) ?_) (fun h2 => ?_) fun h2 => ?_
    · rw [Bool.eq_iff_iff]
      simp only [Bool.and_eq_true, decide_eq_true_iff]
      omega
    · have h2' := of_decide_eq_true h2
      refine sj_asg (ev_i (ev_max2 (ev_var rfl) (ev_sub (ev_mul (ev_Bc T (ev_var rfl)) (ev_sub (ev_var rfl) ev_c) (cmul (a := 2) (b := 2) (lg_small (by omega) (by omega)) (lg_small (by omega) (by omega)) (by decide))) (ev_fdv (ev_Be T (ev_var rfl)) ev_c (by decide)))) ?_) rest
      unfold cdegC
      rw [if_pos hl', if_pos h2']
    · have h2' := of_decide_eq_false h2
      refine sj_next ?_
      unfold cdegC at rest
      rw [if_pos hl', if_neg h2'] at rest
      exact rest
  · have hl' := of_decide_eq_false hl
    refine sj_next ?_
    unfold cdegC at rest
    rw [if_neg hl'] at rest
    exact rest
abbrev Pr_cdeg (P : Program) (w : World) (K : Frag) (mg : Str → Option Value) (base : Heap) : Prop := Pr P w K mg base 48 (ga K "certificate_degree") ["binomial_sum", "order"] [] (sp_cdeg K)
theorem ok_cdeg (N : En P K mg base) : Pr_cdeg P w K mg base := by
  obtain ⟨fd, F, h⟩ := fn_cdeg (w := w) N
  exact pr_mk F h (F.bindsN fun _ _ _ _ _ _ us hl => match us, hl with | [_, _], _ => rfl)
abbrev sn_equations : List Str := ["binomial_sum", "order", "pieces", "ahead", "behind", "i", "size", "rows", "j", "e", "piece"]
theorem sc_equations : FnScope sn_equations ["binomial_sum", "order"] (defScope s_equations) := ⟨rfl, rfl, rfl, by decide +kernel, rfl, by decide +kernel, by decide +kernel⟩
abbrev sp_equations (K : Frag) : Sp := SpG (ι := Bsum × Nat) (fun p => BOk p.1 ∧ p.2 ≤ 2 ∧ cdeg p.1 p.2 ≤ 5) (fun p => [RBs K p.1, RI (p.2 : Int)]) (fun p => RT [RPM K (eqRows p.1 p.2), RI (eqW p.1 p.2 : Int)])
theorem us_equations {K : Frag} (i : Bsum × Nat) (h : (fun p => BOk p.1 ∧ p.2 ≤ 2 ∧ cdeg p.1 p.2 ≤ 5) i) : ∀ vs H Q E, SpF ((fun p => [RBs K p.1, RI (p.2 : Int)]) i) ((fun p => RT [RPM K (eqRows p.1 p.2), RI (eqW p.1 p.2 : Int)]) i) vs H Q E → sp_equations K vs H Q E := fun _ _ _ _ q => ⟨i, h, q⟩
abbrev Fn_equations (P : Program) (w : World) (K : Frag) (mg : Str → Option Value) (base : Heap) : Prop := ∃ fd, DefF K "equations" "equations" s_equations [] [] (ga K "equations") fd ∧ FnOk P w K mg base CX0 49 (ga K "equations") fd ["binomial_sum", "order"] (sp_equations K)
theorem fn_equations (N : En P K mg base) : Fn_equations P w K mg base := by
  have h_column := ok_column (w := w) N
  have h_forward := ok_forward (w := w) N
  have h_backward := ok_backward (w := w) N
  have h_cdeg := ok_cdeg (w := w) N
  have h_Qline := ok_Qline (w := w) N
  have h_Qpow := ok_Qpow (w := w) N
  have h_Qmul := ok_Qmul (w := w) N
  have h_Qsub := ok_Qsub (w := w) N
  have h_Qdk := ok_Qdk (w := w) N
  have h_Qrow := ok_Qrow (w := w) N
  obtain ⟨T, S, ns, tr⟩ := N
  obtain ⟨fd, F⟩ := S.def_ 70
  refine ⟨fd, F, def_ok F sc_equations (fun _ => rfl) fun cdv A' outer s H E hr => ⟨_, (pss_cons (ps_set (i := 2) sc_equations.nd rfl (Or.inr rfl) (pe_lc (own := [("j", 8)]) (g := gName 8) (by rfl) sc_equations.nd (pi_range1 rfl T.n_range (pa_cons (pe_op op_add (pv 1) pe_int) pa_nil)) (blkOk_by (own := [("j", 8)]) (N := sn_equations) (sc := defScope s_equations) (by decide +kernel)) (fun _ _ _ _ _ => (pg_name (i := 8) sc_equations.nd rfl (by first | exact Or.inl rfl | exact Or.inr rfl))) (fun _ _ _ _ _ => pts_nil) (fun _ _ _ _ _ => (pe_callP h_column hr (by decide) rfl T.g_column (pa_cons (pv 0) (pa_cons (pv 1) (pa_cons (pv 8) pa_nil)))))))
      (pss_cons (ps_set (i := 3) sc_equations.nd rfl (Or.inl rfl) (pe_callP h_forward hr (by decide) rfl T.g_forward (pa_cons (pv 0) (pa_cons (pv 1) pa_nil))))
      (pss_cons (ps_set (i := 4) sc_equations.nd rfl (Or.inl rfl) (pe_callP h_backward hr (by decide) rfl T.g_backward (pa_cons (pv 0) pa_nil)))
      (pss_cons (ps_for PassesOwn.never rfl (pi_range1 rfl T.n_range (pa_cons (pe_op op_add (pe_callP h_cdeg hr (by decide) rfl T.g_cdeg (pa_cons (pv 0) (pa_cons (pv 1) pa_nil))) pe_int) pa_nil)) (pg_name (i := 5) sc_equations.nd rfl (Or.inl rfl)) (pss_one (ps_expr (pe_bm PySem.F.plainAttrs_list PySem.F.slot_list_append PySem.F.type_list_append mt_append (pv 2) (pa_cons (pe_op (op_bin h_Qsub T.o_Qsub.at_ T.o_Qsub.fn T.f_Q hr (by decide)) (pe_op (op_bin h_Qmul T.o_Qmul.at_ T.o_Qmul.fn T.f_Q hr (by decide)) (pv 4) (pe_methP h_Qpow hr (by decide) T.c_Q T.m_Qpow (pe_stat h_Qline T.s_Qline hr (by decide) rfl T.g_Q (pa_cons pe_int (pa_cons pe_int (pa_cons pe_int pa_nil)))) (pa_cons (pv 5) pa_nil))) (pe_op (op_bin h_Qmul T.o_Qmul.at_ T.o_Qmul.fn T.f_Q hr (by decide)) (pv 3) (pe_methP h_Qpow hr (by decide) T.c_Q T.m_Qpow (pe_stat h_Qline T.s_Qline hr (by decide) rfl T.g_Q (pa_cons pe_int (pa_cons pe_int (pa_cons pe_int pa_nil)))) (pa_cons (pv 5) pa_nil)))) pa_nil)))))
      (pss_cons (ps_set (i := 6) sc_equations.nd rfl (Or.inl rfl) (pe_op op_add pe_int (pe_callB (cr_max rfl) (by rfl) T.n_max bt_max (pa_cons (pe_lc (own := [("piece", 10)]) (g := gName 10) (by rfl) sc_equations.nd (pi_list (pv 2)) (blkOk_by (own := [("piece", 10)]) (N := sn_equations) (sc := defScope s_equations) (by decide +kernel)) (fun _ _ _ _ _ => (pg_name (i := 10) sc_equations.nd rfl (by first | exact Or.inl rfl | exact Or.inr rfl))) (fun _ _ _ _ _ => pts_nil) (fun _ _ _ _ _ => (pe_propP h_Qdk hr (by decide) T.c_Q T.p_Qdk (pv 10)))) pa_nil))))
      (pss_cons (ps_setLc (i := 7) (own := [("e", 9)]) (g := gName 9) (by rfl) sc_equations.nd rfl rfl (sw_true rfl rfl rfl (by decide +kernel)) (pi_range1 rfl T.n_range (pa_cons (pv 6) pa_nil)) (blkOk_by (own := [("e", 9)]) (N := sn_equations) (sc := defScope s_equations) (by decide +kernel)) (fun _ _ _ _ _ => (pg_name (i := 9) sc_equations.nd rfl (by first | exact Or.inl rfl | exact Or.inr rfl))) (fun _ _ _ _ _ => pts_nil) (fun _ _ _ _ _ => (pe_lc (own := [("piece", 10)]) (g := gName 10) (by rfl) sc_equations.nd (pi_listK K rfl (pv 2)) (blkOk_by (own := [("piece", 10)]) (N := sn_equations) (by kernel_rfl)) (fun _ _ _ _ _ => (pg_name (i := 10) sc_equations.nd rfl (by first | exact Or.inl rfl | exact Or.inr rfl))) (fun _ _ _ _ _ => pts_nil) (fun _ _ _ _ _ => (pe_methP h_Qrow hr (by decide) T.c_Q T.m_Qrow (pv 10) (pa_cons (pv 9) pa_nil))))))
      (pss_one (ps_ret (pe_tup (pa_cons (pv 7) (pa_cons (pe_callB call_len_seq (by rfl) T.n_len PySem.boot_len (pa_cons (pv 2) pa_nil)) pa_nil))))))))))), fun i hy F0 H0 Q q => ?_⟩⟩
  obtain ⟨s, J⟩ := i
  replace hy : BOk s ∧ J ≤ 2 ∧ cdeg s J ≤ 5 := hy
  change SJ F0 H0 _ (ctx [RBs K s, RI (J : Int)] _) _
  obtain ⟨hb, hJ, hcd⟩ := hy
  have hnM : nM s J ≤ 6 := by unfold nM; omega
  have hcdl : -1 ≤ cdeg s J := by unfold cdeg; omega
  have hpl : (pieces s J).length = J + 1 + nM s J := by unfold pieces; rw [List.length_append, List.length_map, List.length_map, List.length_range, List.length_range]
  have hpz : ∀ x ∈ pieces s J, x.length ≤ 29 := fun x hx => by
    rcases List.mem_append.mp hx with hx | hx
    · obtain ⟨j, hj, rfl⟩ := List.mem_map.mp hx
      exact Nat.le_trans (column_sz hb hJ (by have := List.mem_range.mp hj; omega)).1 (by decide)
    · obtain ⟨i, hi, rfl⟩ := List.mem_map.mp hx
      exact (mpiece_sz hb hJ (by have := List.mem_range.mp hi; omega)).1
  obtain ⟨m1, m2⟩ := maxOf_spec (l := (pieces s J).map qDk) (by rw [List.length_map]; omega)
  have hmx : -1 ≤ maxOf ((pieces s J).map qDk) ∧ maxOf ((pieces s J).map qDk) ≤ 28 := by
    obtain ⟨x, hx, e⟩ := List.mem_map.mp m1
    have := hpz x hx
    rw [← e]
    unfold qDk
    omega
  refine q_asgO (eo_lc1 (n := ((J + 1 : Nat) : Int)) (Rs := ((List.range (J + 1)).map fun j => column s J j).map (RQ K)) (ea1 (ev_i (ev_add (ev_var rfl) ev_c) (by omega))) (by omega) (by rw [List.length_map, List.length_map, List.length_range]; omega) (by omega) (fun T hT => cond_mov rfl rfl hT) fun j R hR => ?_) ?_
  · obtain ⟨hj, rfl⟩ := range_map hR
    exact ev_call (ea_cons (ev_var rfl) (ea2 (ev_var rfl) (ev_var rfl))) (us_column (s, J, j) ⟨hb, hJ, by show j ≤ J; omega⟩)
  refine q_asg (ev_call (ea2 (ev_var rfl) (ev_var rfl)) (us_forward (s, J) ⟨hb, hJ⟩)) ?_
  refine q_asg (ev_call (ea1 (ev_var rfl)) (us_backward s hb)) ?_
  refine q_for1 (n := (nM s J : Int)) (ea1 (ev_i (ev_add (ev_call (ea2 (ev_var rfl) (ev_var rfl)) (us_cdeg (s, J) ⟨hb, hJ⟩)) ev_c) (by show cdeg s J + 1 = (nM s J : Int); unfold nM; omega))) (by omega) (by omega) (fun i => [.fz (RBs K s), .fz (RI (J : Int)), .own ((((List.range (J + 1)).map fun j => column s J j) ++ (List.range i).map fun i => mpiece s J i).map (RQ K)), .fz (RQ K (forward s J)), .fz (RQ K (backward s)), .any, .any, .any, .any, .any, .any]) ⟨.inr rfl, .inr rfl, .inr (by rw [List.range_zero, List.map_nil, List.append_nil]), .inr rfl, .inr rfl, .inl rfl, .inl rfl, .inl rfl, .inl rfl, .inl rfl, .inl rfl, trivial⟩ (fun i hi => ?_) ?_
  · have hi' : i ≤ 6 := by omega
    refine sj_app rfl (ev_Qsub (ev_Qmul (ev_var rfl) (ev_Qpow (ev_Qline ev_c ev_c ev_c) (ev_var rfl) (by omega) (fun j hj => lpow_sz l0_sz j (by omega)) l0_sz (by decide) (by decide) (by decide)) (backward_sz hb) (lpow_sz l0_sz i hi') (by decide) (by decide) (by decide)) (ev_Qmul (ev_var rfl) (ev_Qpow (ev_Qline ev_c ev_c ev_c) (ev_var rfl) (by omega) (fun j hj => lpow_sz l1_sz j (by omega)) l1_sz (by decide) (by decide) (by decide)) (forward_sz hb hJ) (lpow_sz l1_sz i hi') (by decide) (by decide) (by decide)) (mp1_sz hb hi') (mp2_sz hb hJ hi') (by decide) (by decide) (by decide) (by decide) (by decide)) (by rw [List.length_map, List.length_append, List.length_map, List.length_map, List.length_range, List.length_range]; omega) (nx_sub ⟨.inr rfl, .inr rfl, .inr ?_, .inr rfl, .inr rfl, .inl rfl, .inl rfl, .inl rfl, .inl rfl, .inl rfl, .inl rfl, trivial⟩)
    have er : ((List.range (i + 1)).map fun i => mpiece s J i) = ((List.range i).map fun i => mpiece s J i) ++ [mpiece s J i] := by
      rw [List.range_succ (n := i), List.map_append]
      rfl
    rw [er, ← List.append_assoc, List.map_append (l₂ := [mpiece s J i])]
    rfl
  rw [Int.toNat_natCast]
  refine sj_freeze (i := 2) rfl ?_
  refine q_asg (R := RI (1 + maxOf ((pieces s J).map qDk))) (ev_add ev_c (ev_maxL (ns := (pieces s J).map qDk) (eo_lcL (ev_var (R := RL ((pieces s J).map (RQ K))) rfl) (by rw [List.length_map, List.length_map, List.length_map]) (by rw [List.length_map, List.length_map]; omega) (fun T hT => cond_mov rfl rfl hT) fun n S R hS hR => ?_) (by rw [List.length_map]; omega) _ m1 m2)) ?_
  · obtain ⟨hn, rfl⟩ := map_get [] hS
    rw [List.map_map] at hR
    obtain ⟨_, rfl⟩ := map_get (f := RI ∘ qDk) [] hR
    exact ev_Qdk (ev_var rfl)
  refine q_asg (R := RPM K (eqRows s J)) (EO.ev (eo_lc1 (n := 1 + maxOf ((pieces s J).map qDk)) (Rs := (eqRows s J).map (RPL K)) (ea1 (ev_var rfl)) (by omega) (by unfold eqRows eqSize; rw [List.length_map, List.length_map, List.length_range]) (by omega) (fun T hT => cond_mov rfl rfl hT) fun e R hR => ?_)) ?_
  · unfold eqRows at hR
    obtain ⟨he, rfl⟩ := range_map hR
    refine EO.ev (eo_lcL (Rs := ((pieces s J).map fun p => qRow p e).map (RP K)) (ev_var (R := RL ((pieces s J).map (RQ K))) rfl) (by rw [List.length_map, List.length_map, List.length_map]) (by rw [List.length_map, List.length_map]; omega) (fun T hT => cond_mov rfl rfl hT) fun n S R hS hR => ?_)
    obtain ⟨hn, rfl⟩ := map_get [] hS
    rw [List.map_map] at hR
    obtain ⟨_, rfl⟩ := map_get (f := RP K ∘ fun p => qRow p e) [] hR
    exact ev_Qrow (ev_var rfl) (ev_var rfl)
  exact sj_ret (ev_tup (ea2 (ev_var rfl) (ev_lenM (l := pieces s J) (f := RQ K) (ev_var rfl))) (by simp)) q
abbrev Pr_equations (P : Program) (w : World) (K : Frag) (mg : Str → Option Value) (base : Heap) : Prop := Pr P w K mg base 49 (ga K "equations") ["binomial_sum", "order"] [] (sp_equations K)
theorem ok_equations (N : En P K mg base) : Pr_equations P w K mg base := by
  obtain ⟨fd, F, h⟩ := fn_equations (w := w) N
  exact pr_mk F h (F.bindsN fun _ _ _ _ _ _ us hl => match us, hl with | [_, _], _ => rfl)
end
end G
end
section
set_option maxRecDepth 100000
set_option maxHeartbeats 4000000
namespace G
open PySem PySem.Spec PyProof.Rows L2 He
open _root_.RT (ItvT iRevA pi_revA)
section
variable {P : Program} {w : World} {K : Frag} {mg : Str → Option Value} {base : Heap}
def RCert (K : Frag) : Cert → Rp
  | .no J N m => RT [RK (.str "none"), RI (J : Int), RI (N : Int), RT (m.map fun r : List Fr => RT (r.map (RF K)))]
  | .tel J op m => RT [RK (.str "recurrence"), RI (J : Int), RO K op, RQ K m]
structure RecOk (s : Bsum) (J : Nat) (a : PA) : Prop where
  b : BOk s
  J2 : J ≤ 2
  cd : cdeg s J ≤ 5
  pa : PAok (eqRows s J) (eqW s J) a
theorem eqW_le {s : Bsum} {J : Nat} (hJ : J ≤ 2) (hc : cdeg s J ≤ 5) : eqW s J ≤ 9 := by
  unfold eqW pieces nM
  rw [List.length_append, List.length_map, List.length_map, List.length_range, List.length_range]
  omega
theorem strNe {x y : Str} (h : x ≠ y) : (!decide (V.str x = V.str y)) = true := by
  rw [decide_eq_false (by intro z; cases z; exact h rfl)]; rfl
abbrev sn_recur : List Str := ["binomial_sum", "order", "rows", "width", "answer", "unknowns", "row"]
theorem sc_recur : FnScope sn_recur ["binomial_sum", "order"] (defScope s_recur) := ⟨rfl, rfl, rfl, by decide +kernel, rfl, by decide +kernel, by decide +kernel⟩
abbrev sp_recur (K : Frag) : Sp := SpG (ι := Bsum × Nat × PA) (fun p => RecOk p.1 p.2.1 p.2.2) (fun p => [RBs K p.1, RI (p.2.1 : Int)]) (fun p => RCert K (certOf p.1 p.2.1 p.2.2))
theorem us_recur {K : Frag} (i : Bsum × Nat × PA) (h : (fun p => RecOk p.1 p.2.1 p.2.2) i) : ∀ vs H Q E, SpF ((fun p => [RBs K p.1, RI (p.2.1 : Int)]) i) ((fun p => RCert K (certOf p.1 p.2.1 p.2.2)) i) vs H Q E → sp_recur K vs H Q E := fun _ _ _ _ q => ⟨i, h, q⟩
abbrev Fn_recur (P : Program) (w : World) (K : Frag) (mg : Str → Option Value) (base : Heap) : Prop := ∃ fd, DefF K "recurrence" "recurrence" s_recur [] [] (ga K "recurrence") fd ∧ FnOk P w K mg base CX0 51 (ga K "recurrence") fd ["binomial_sum", "order"] (sp_recur K)
theorem fn_recur (N : En P K mg base) : Fn_recur P w K mg base := by
  have h_equations := ok_equations (w := w) N
  have h_pkernel := ok_pkernel (w := w) N
  have h_Oi := ok_Oi (w := w) N
  have h_Qi := ok_Qi (w := w) N
  obtain ⟨T, S, ns, tr⟩ := N
  obtain ⟨fd, F⟩ := S.def_ 71
  refine ⟨fd, F, def_ok F sc_recur (fun _ => rfl) fun cdv A' outer s H E hr => ⟨_, (pss_cons (ps_asg (pe_callP h_equations hr (by decide) rfl T.g_equations (pa_cons (pv 0) (pa_cons (pv 1) pa_nil))) (pg_tup rfl (pgs_cons (pg_name (i := 2) sc_recur.nd rfl (Or.inl rfl)) (pgs_cons (pg_name (i := 3) sc_recur.nd rfl (Or.inl rfl)) pgs_nil))))
      (pss_cons (ps_set (i := 4) sc_recur.nd rfl (Or.inl rfl) (pe_callP h_pkernel hr (by decide) rfl T.g_pkernel (pa_cons (pv 2) (pa_cons (pv 3) pa_nil))))
      (pss_cons (ps_if (pt_cmpR op_eq (pe_ix ix_tup (pv 4) pe_int (fun _ _ => rfl)) pe_str (nomark _)) (pss_one (ps_ret (pe_tup (pa_cons pe_str (pa_cons (pv 1) (pa_cons (pe_ix ix_tup (pv 4) pe_int (fun _ _ => rfl)) (pa_cons (pe_callTy call_tuple_of (by rfl) T.n_tuple bt_tuple (pa_cons (pe_lc (own := [("row", 6)]) (g := gName 6) (by rfl) sc_recur.nd (pi_list (pe_ix (ix_tupK K rfl) (pv 4) pe_int (fun _ _ => rfl))) (blkOk_by (own := [("row", 6)]) (N := sn_recur) (sc := defScope s_recur) (by decide +kernel)) (fun _ _ _ _ _ => (pg_name (i := 6) sc_recur.nd rfl (by first | exact Or.inl rfl | exact Or.inr rfl))) (fun _ _ _ _ _ => pts_nil) (fun _ _ _ _ _ => (pe_callTy (call_tuple_ofK K rfl) (by rfl) T.n_tuple bt_tuple (pa_cons (pv 6) pa_nil)))) pa_nil)) pa_nil))))))) pss_nil)
      (pss_cons (ps_set (i := 5) sc_recur.nd rfl (Or.inl rfl) (pe_ix ix_tup (pv 4) pe_int (fun _ _ => rfl)))
      (pss_one (ps_ret (pe_tup (pa_cons pe_str (pa_cons (pv 1) (pa_cons (pe_makeP h_Oi hr (by decide) T.mk_O rfl T.g_O (pa_cons (pe_slice sl_list (pv 5) po_none (po_some (pe_op op_add (pv 1) pe_int))) pa_nil)) (pa_cons (pe_makeP h_Qi hr (by decide) T.mk_Q rfl T.g_Q (pa_cons (pe_slice sl_list (pv 5) (po_some (pe_op op_add (pv 1) pe_int)) po_none) pa_nil)) pa_nil))))))))))), fun i hy F0 H0 Q q => ?_⟩⟩
  obtain ⟨s, J, pa⟩ := i
  replace hy : RecOk s J pa := hy
  change SJ F0 H0 _ (ctx [RBs K s, RI (J : Int)] _) _
  obtain ⟨hb, hJ, hcd, hpa⟩ := hy
  have hw := eqW_le hJ hcd
  refine q_pair (Ra := RPM K (eqRows s J)) (Rb := RI (eqW s J : Int)) (ev_call (ea2 (ev_var rfl) (ev_var rfl)) (us_equations (s, J) ⟨hb, hJ, hcd⟩)) ?_
  refine q_asg (R := RPA K (eqRows s J) (eqW s J) pa) (ev_call (ea2 (ev_var rfl) (ev_var rfl)) (us_pkernel (eqRows s J, eqW s J, pa) hpa)) ?_
  cases pa with
  | pt N m =>
    have hml : m.length = eqW s J := by
      have e := hpa.2.2.2.2
      unfold kernelM at e
      split at e
      · cases e; rw [List.length_map, List.length_range]
      · cases e
    refine q_when (b := true) (et_is (et_test (ev_eq (ev_ixT (n := 0) (Rs := [RK (.str "point"), RI (N : Int), RMX K m]) (ev_var rfl) ev_c rfl) ev_c rfl)) (by decide)) (fun _ => ?_) (fun h => by cases h)
    have q' : RTn F0 H0 Q (RT [RK (.str "none"), RI (J : Int), RI (N : Int), RT (m.map fun r : List Fr => RT (r.map (RF K)))]) := q
    refine sj_ret (ev_tup (ea_cons ev_c (ea_cons (ev_var rfl) (ea2 (ev_ixT (n := 1) (Rs := [RK (.str "point"), RI (N : Int), RMX K m]) (ev_var rfl) ev_c rfl) (ev_tupleO (eo_lcL (Rs := m.map fun r => RT (r.map (RF K))) (ev_ixT (n := 2) (Rs := [RK (.str "point"), RI (N : Int), RMX K m]) (R := RMX K m) (ev_var rfl) ev_c rfl) (by rw [List.length_map, List.length_map]) (by rw [List.length_map]; omega) (fun T hT => cond_mov rfl rfl hT) fun n S R hS hR => ?_))))) (by simp)) q'
    obtain ⟨hn, rfl⟩ := map_get [] hS
    obtain ⟨_, rfl⟩ := map_get (f := fun r : List Fr => RT (r.map (RF K))) [] hR
    exact ev_tupleL (ev_var rfl)
  | vec c =>
    have hkl : (pkVec s J c).length = eqW s J := kvP_len _ _ _ _
    refine q_skip (et_is (et_test (ev_eq (ev_ixT (n := 0) (Rs := [RK (.str "vector"), RPL K (pkVec s J c)]) (ev_var rfl) ev_c rfl) ev_c rfl)) (by decide)) ?_
    refine q_asg (R := RPL K (pkVec s J c)) (ev_ixT (n := 1) (Rs := [RK (.str "vector"), RPL K (pkVec s J c)]) (ev_var rfl) ev_c rfl) ?_
    have hpw : J + 1 ≤ eqW s J := by
      unfold eqW pieces
      rw [List.length_append, List.length_map, List.length_map, List.length_range, List.length_range]
      omega
    have q' : RTn F0 H0 Q (RT [RK (.str "recurrence"), RI (J : Int), RO K (mkQ ((pkVec s J c).take (J + 1))), RQ K (mkQ ((pkVec s J c).drop (J + 1)))]) := q
    refine sj_ret (ev_tup (ea_cons ev_c (ea_cons (ev_var rfl) (ea2 (ev_make (ea1 (ev_r (EO.ev (eo_slice (ev_var rfl) ep_none (ep_some (ev_i (j := ((J + 1 : Nat) : Int)) (ev_add (ev_var rfl) ev_c) (by omega))))) ?_)) (us_Oi ((pkVec s J c).take (J + 1)) (by rw [List.length_take]; omega))) (ev_make (ea1 (ev_r (EO.ev (eo_slice (ev_var rfl) (ep_some (ev_i (j := ((J + 1 : Nat) : Int)) (ev_add (ev_var rfl) ev_c) (by omega))) ep_none)) ?_)) (us_Qi ((pkVec s J c).drop (J + 1)) (by rw [List.length_drop]; omega)))))) (by simp)) q'
    · rw [List.length_map, HT.sIx_none, HT.sIx_nat, List.drop_zero, Nat.sub_zero, Nat.min_eq_left (by omega), ← List.map_take]
    · rw [List.length_map, HT.sIx_none, HT.sIx_nat, Nat.min_eq_left (by omega), ← List.map_drop, ← List.map_take]
      congr 2
      rw [List.take_of_length_le (by rw [List.length_drop]; exact Nat.le_refl _)]
abbrev Pr_recur (P : Program) (w : World) (K : Frag) (mg : Str → Option Value) (base : Heap) : Prop := PrK P w K mg base 51 (ga K "recurrence") ["binomial_sum", "order"] 1 ["order"] (sp_recur K)
theorem ok_recur (N : En P K mg base) : Pr_recur P w K mg base := by
  obtain ⟨fd, F, h⟩ := fn_recur (w := w) N
  exact ⟨fd, h, kbindsN F 1 fun _ _ _ _ _ _ us ws h1 h2 => match us, ws, h1, h2 with | [_], [_], _, _ => rfl, F.kp⟩
/-- the least order: behind the orders without one -/
structure LeastOk (s : Bsum) (k : Nat) (pas : Nat → PA) : Prop where
  kf : k ≤ facs s
  ok : ∀ J, J ≤ k → RecOk s J (pas J)
  no : ∀ J, J < k → isRec (certOf s J (pas J)) = false
  yes : isRec (certOf s k (pas k)) = true
def lrCtx (K : Frag) (s : Bsum) (k : Nat) (pas : Nat → PA) (i : Nat) : List Ty := [if i ≤ k then .fz (RBs K s) else .fz RNo, .own ((List.range i).map fun J => RCert K (certOf s J (pas J))), .any]
theorem ev_cert0 {Γ : List Ty} {ta tb : TE} {c : Cert} (h : EV Γ ta (RCert K c)) (hb : EV Γ tb (RI ((0 : Nat) : Int))) : EV Γ (tOp (rIxT K) ta tb) (RK (.str (if isRec c = true then "recurrence" else "none"))) := by
  cases c with
  | no J N m => exact ev_ixT (n := 0) (Rs := [RK (.str "none"), RI (J : Int), RI (N : Int), RT (m.map fun r : List Fr => RT (r.map (RF K)))]) h hb rfl
  | tel J op m => exact ev_ixT (n := 0) (Rs := [RK (.str "recurrence"), RI (J : Int), RO K op, RQ K m]) h hb rfl
theorem et_cert0 {Γ : List Ty} {ta tb : TE} {c : Cert} (h : EV Γ ta (RCert K c)) (hb : EV Γ tb (RI ((0 : Nat) : Int))) : ET Γ (tTest (tOp rEq (tOp (rIxT K) ta tb) (tC (.str "recurrence")))) (isRec c) := by
  refine et_is (et_test (ev_eq (ev_cert0 h hb) ev_c rfl)) ?_
  cases isRec c <;> decide
abbrev sn_lrec : List Str := ["binomial_sum", "found", "order"]
theorem sc_lrec : FnScope sn_lrec ["binomial_sum"] (defScope s_lrec) := ⟨rfl, rfl, rfl, by decide +kernel, rfl, by decide +kernel, by decide +kernel⟩
abbrev sp_lrec (K : Frag) : Sp := SpG (ι := Bsum × Nat × (Nat → PA)) (fun p => LeastOk p.1 p.2.1 p.2.2) (fun p => [RBs K p.1]) (fun p => RL ((List.range (p.2.1 + 1)).map fun J => RCert K (certOf p.1 J (p.2.2 J))))
theorem us_lrec {K : Frag} (i : Bsum × Nat × (Nat → PA)) (h : (fun p => LeastOk p.1 p.2.1 p.2.2) i) : ∀ vs H Q E, SpF ((fun p => [RBs K p.1]) i) ((fun p => RL ((List.range (p.2.1 + 1)).map fun J => RCert K (certOf p.1 J (p.2.2 J)))) i) vs H Q E → sp_lrec K vs H Q E := fun _ _ _ _ q => ⟨i, h, q⟩
abbrev Fn_lrec (P : Program) (w : World) (K : Frag) (mg : Str → Option Value) (base : Heap) : Prop := ∃ fd, DefF K "least_recurrence" "least_recurrence" s_lrec [] [] (ga K "least_recurrence") fd ∧ FnOk P w K mg base CX0 52 (ga K "least_recurrence") fd ["binomial_sum"] (sp_lrec K)
theorem fn_lrec (N : En P K mg base) : Fn_lrec P w K mg base := by
  have h_Bfac := ok_Bfac (w := w) N
  have h_recur := ok_recur (w := w) N
  obtain ⟨T, S, ns, tr⟩ := N
  obtain ⟨fd, F⟩ := S.def_ 72
  refine ⟨fd, F, def_ok F sc_lrec (fun _ => rfl) fun cdv A' outer s H E hr => ⟨_, (pss_cons (ps_set (i := 1) sc_lrec.nd rfl (Or.inl rfl) (pe_lst pa_nil))
      (pss_cons (ps_for PassesOwn.never rfl (pi_range1 rfl T.n_range (pa_cons (pe_op op_add (pe_propP h_Bfac hr (by decide) T.c_B T.p_Bfac (pv 0)) pe_int) pa_nil)) (pg_name (i := 2) sc_lrec.nd rfl (Or.inl rfl)) (pss_cons (ps_expr (pe_bm PySem.F.plainAttrs_list PySem.F.slot_list_append PySem.F.type_list_append mt_append (pv 1) (pa_cons (pe_callKw h_recur hr (by decide) rfl T.g_recur (pa_cons (pv 0) pa_nil) (pk_cons (pv 2) pk_nil)) pa_nil)))
      (pss_one (ps_if (pt_cmpR op_eq (pe_ix ix_tup (pe_ix ix_list (pv 1) (pv 2) (fun _ _ => rfl)) pe_int (fun _ _ => rfl)) pe_str (nomark _)) (pss_one (ps_ret (pv 1))) pss_nil))))
      (pss_one (ps_ret (pv 1))))), fun i hy F0 H0 Q q => ?_⟩⟩
  obtain ⟨s, k, pas⟩ := i
  replace hy : LeastOk s k pas := hy
  change SJ F0 H0 _ (ctx [RBs K s] _) _
  obtain ⟨hkf, hok, hno, hyes⟩ := hy
  have hfs := (hok 0 (Nat.zero_le _)).b.fs
  have hfs2 : facs s ≤ 2 := hfs
  refine q_asgO (eo_lst ea_nil (by simp)) ?_
  refine q_for1 (n := ((facs s + 1 : Nat) : Int)) (ea1 (ev_i (ev_add (ev_prop (R := RI (facs s : Int)) (ev_var rfl) (rn_no (m := "factors") (by decide)) (us_Bfac s trivial)) ev_c) (by omega))) (by omega) (by omega) (lrCtx K s k pas) ⟨.inr (by rw [if_pos (Nat.zero_le _)]), .inr rfl, .inl rfl, trivial⟩ (fun J hJ => ?_) ?_
  · unfold lrCtx
    by_cases hJk : J ≤ k
    · rw [if_pos hJk]
      have hl : ((List.range J).map fun J => RCert K (certOf s J (pas J))).length = J := by rw [List.length_map, List.length_range]
      refine q_app rfl (ev_callN (Bs := [RI (J : Int)]) (ea1 (ev_var rfl)) (ea1 (ev_var rfl)) rfl rfl (us_recur (s, J, pas J) (hok J hJk))) (by rw [hl]; omega) ?_
      have er : ((List.range (J + 1)).map fun J => RCert K (certOf s J (pas J))) = ((List.range J).map fun J => RCert K (certOf s J (pas J))) ++ [RCert K (certOf s J (pas J))] := by
        rw [List.range_succ, List.map_append]
        rfl
      have hget : (((List.range J).map fun J => RCert K (certOf s J (pas J))) ++ [RCert K (certOf s J (pas J))])[J]? = some (RCert K (certOf s J (pas J))) := by
        rw [List.getElem?_append_right (by rw [hl]; exact Nat.le_refl _), hl, Nat.sub_self]
        rfl
      refine sj_if (et_cert0 (ev_ixO (n := J) rfl (ev_var rfl) hget) ev_c) (fun h => ?_) fun h => ?_
      · have hJe : J = k := by
          rcases Nat.lt_or_ge J k with z | z
          · have := hno J z; rw [h] at this; cases this
          · omega
        refine sj_freeze (i := 1) rfl (sj_ret (ev_var rfl) ?_)
        rw [← er, hJe]
        exact q
      · have hJe : J ≠ k := fun z => by rw [z, hyes] at h; cases h
        refine sj_next (nx_sub ⟨.inr (by rw [if_pos (show J + 1 ≤ k by omega)]), .inr ?_, .inl rfl, trivial⟩)
        rw [er]
    · rw [if_neg hJk]
      exact sj_no (i := 0) rfl
  · rw [Int.toNat_natCast]
    unfold lrCtx
    by_cases hk : facs s + 1 ≤ k
    · omega
    · rw [if_neg hk]
      exact sj_no (i := 0) rfl
abbrev Pr_lrec (P : Program) (w : World) (K : Frag) (mg : Str → Option Value) (base : Heap) : Prop := Pr P w K mg base 52 (ga K "least_recurrence") ["binomial_sum"] [] (sp_lrec K)
theorem ok_lrec (N : En P K mg base) : Pr_lrec P w K mg base := by
  obtain ⟨fd, F, h⟩ := fn_lrec (w := w) N
  exact pr_mk F h (F.bindsN fun _ _ _ _ _ _ us hl => match us, hl with | [_], _ => rfl)
abbrev sn_istel : List Str := ["binomial_sum", "order", "operator", "m", "total", "j"]
theorem sc_istel : FnScope sn_istel ["binomial_sum", "order", "operator", "m"] (defScope s_istel) := ⟨rfl, rfl, rfl, by decide +kernel, rfl, by decide +kernel, by decide +kernel⟩
abbrev sp_istel (K : Frag) : Sp := SpG (ι := Bsum × Nat × List Po × Q2) (fun p => TelOk p.1 p.2.1 p.2.2.1 p.2.2.2) (fun p => [RBs K p.1, RI (p.2.1 : Int), RO K p.2.2.1, RQ K p.2.2.2]) (fun _ => RB true)
theorem us_istel {K : Frag} (i : Bsum × Nat × List Po × Q2) (h : (fun p => TelOk p.1 p.2.1 p.2.2.1 p.2.2.2) i) : ∀ vs H Q E, SpF ((fun p => [RBs K p.1, RI (p.2.1 : Int), RO K p.2.2.1, RQ K p.2.2.2]) i) ((fun _ => RB true) i) vs H Q E → sp_istel K vs H Q E := fun _ _ _ _ q => ⟨i, h, q⟩
abbrev Fn_istel (P : Program) (w : World) (K : Frag) (mg : Str → Option Value) (base : Heap) : Prop := ∃ fd, DefF K "is_telescoper" "is_telescoper" s_istel [] [] (ga K "is_telescoper") fd ∧ FnOk P w K mg base CX0 48 (ga K "is_telescoper") fd ["binomial_sum", "order", "operator", "m"] (sp_istel K)
theorem fn_istel (N : En P K mg base) : Fn_istel P w K mg base := by
  have h_Oz := ok_Oz (w := w) N
  have h_Oord := ok_Oord (w := w) N
  have h_Qi := ok_Qi (w := w) N
  have h_Qinn := ok_Qinn (w := w) N
  have h_Opart := ok_Opart (w := w) N
  have h_column := ok_column (w := w) N
  have h_Qmul := ok_Qmul (w := w) N
  have h_Qadd := ok_Qadd (w := w) N
  have h_forward := ok_forward (w := w) N
  have h_Qmoved := ok_Qmoved (w := w) N
  have h_backward := ok_backward (w := w) N
  have h_Qsub := ok_Qsub (w := w) N
  have h_Qeq := ok_Qeq (w := w) N
  obtain ⟨T, S, ns, tr⟩ := N
  obtain ⟨fd, F⟩ := S.def_ 73
  refine ⟨fd, F, def_ok F sc_istel (fun _ => rfl) fun cdv A' outer s H E hr => ⟨_, (pss_cons (ps_if (PW.pt (pw_or (pt_val (pe_propP h_Oz hr (by decide) T.c_O T.p_Oz (pv 2))) (pw_or1 (pt_cmpR op_gt (pe_propP h_Oord hr (by decide) T.c_O T.p_Oord (pv 2)) (pv 1) (nomark _))))) (pss_one (ps_ret pe_bl)) pss_nil)
      (pss_cons (ps_set (i := 4) sc_istel.nd rfl (Or.inl rfl) (pe_makeP h_Qi hr (by decide) T.mk_Q rfl T.g_Q (pa_cons (pe_lst pa_nil) pa_nil)))
      (pss_cons (ps_for PassesOwn.never rfl (pi_range1 rfl T.n_range (pa_cons (pe_op op_add (pv 1) pe_int) pa_nil)) (pg_name (i := 5) sc_istel.nd rfl (Or.inl rfl)) (pss_one (ps_set (i := 4) sc_istel.nd rfl (Or.inl rfl) (pe_op (op_bin h_Qadd T.o_Qadd.at_ T.o_Qadd.fn T.f_Q hr (by decide)) (pv 4) (pe_op (op_bin h_Qmul T.o_Qmul.at_ T.o_Qmul.fn T.f_Q hr (by decide)) (pe_stat h_Qinn T.s_Qinn hr (by decide) rfl T.g_Q (pa_cons (pe_methP h_Opart hr (by decide) T.c_O T.m_Opart (pv 2) (pa_cons (pv 5) pa_nil)) pa_nil)) (pe_callP h_column hr (by decide) rfl T.g_column (pa_cons (pv 0) (pa_cons (pv 1) (pa_cons (pv 5) pa_nil)))))))))
      (pss_one (ps_ret (pe_cmpR (op_eqOwn h_Qeq T.o_Qeq.at_ T.o_Qeq.fn hr (by decide)) (pv 4) (pe_op (op_bin h_Qsub T.o_Qsub.at_ T.o_Qsub.fn T.f_Q hr (by decide)) (pe_op (op_bin h_Qmul T.o_Qmul.at_ T.o_Qmul.fn T.f_Q hr (by decide)) (pe_callP h_forward hr (by decide) rfl T.g_forward (pa_cons (pv 0) (pa_cons (pv 1) pa_nil))) (pe_methP h_Qmoved hr (by decide) T.c_Q T.m_Qmoved (pv 3) (pa_cons pe_int (pa_cons pe_int pa_nil)))) (pe_op (op_bin h_Qmul T.o_Qmul.at_ T.o_Qmul.fn T.f_Q hr (by decide)) (pe_callP h_backward hr (by decide) rfl T.g_backward (pa_cons (pv 0) pa_nil)) (pv 3))) (nomark _))))))), fun i hy F0 H0 Q q => ?_⟩⟩
  obtain ⟨s, J, op, m⟩ := i
  replace hy : TelOk s J op m := hy
  change SJ F0 H0 _ (ctx [RBs K s, RI (J : Int), RO K op, RQ K m] _) _
  have hJ := hy.J2
  have ho1 := hy.o1
  have ho2 := hy.o2
  refine q_skip (et_is (et_or (b := false) (et_B (ev_prop (R := RB (decide (op.length = 0))) (ev_var rfl) (rn_no (m := "is_zero") (by decide)) (us_Oz op trivial))) fun _ => et_is (et_I (ev_prop (R := RI ((op.length : Int) - 1)) (ev_var rfl) (rn_no (m := "order") (by decide)) (us_Oord op trivial)) (ev_var rfl)) (decide_eq_false (by omega))) ?_) ?_
  · rw [decide_eq_false ho1]; rfl
  refine q_asg (ev_make (ea1 (EO.ev (eo_lst ea_nil (by simp)))) (us_Qi [] (by simp))) ?_
  refine q_for1 (n := ((J + 1 : Nat) : Int)) (ea1 (ev_i (ev_add (ev_var rfl) ev_c) (by omega))) (by omega) (by omega) (fun n => [.fz (RBs K s), .fz (RI (J : Int)), .fz (RO K op), .fz (RQ K m), .fz (RQ K (totN s J op n)), .any]) ⟨.inr rfl, .inr rfl, .inr rfl, .inr rfl, .inr rfl, .inl rfl, trivial⟩ (fun n hn => ?_) ?_
  · have hn' : n ≤ J := by omega
    refine sj_asg (ev_Qadd (ev_var rfl) (ev_Qmul (ev_call (ea1 (ev_meth (ev_var rfl) (rn_no (by decide)) (ea1 (ev_var rfl)) (us_Opart (op, n) trivial))) (us_Qinn (qRow op n) trivial)) (ev_call (ea_cons (ev_var rfl) (ea2 (ev_var rfl) (ev_var rfl))) (us_column (s, J, n) ⟨hy.b, hJ, hn'⟩)) (inN_sz hy n) (column_sz hy.b hJ hn') (by decide) (by decide) (by decide)) (totN_sz hy n (by omega)) (term_sz hy hn') (by omega) (by decide) (by decide) (by decide) (by decide)) (nx_sub ⟨.inr rfl, .inr rfl, .inr rfl, .inr rfl, .inr rfl, .inl rfl, trivial⟩)
  · rw [Int.toNat_natCast]
    have e := hy.eq
    rw [e]
    exact sj_ret (ev_own2 (ev_var rfl) (ev_Qsub (ev_Qmul (ev_call (ea2 (ev_var rfl) (ev_var rfl)) (us_forward (s, J) ⟨hy.b, hJ⟩)) (ev_meth (ev_var rfl) (rn_no (by decide)) (ea2 ev_c ev_c) (us_Qmoved (m, 0, 1) ⟨1000, 0, 40, 8, hy.mz, show lg 0 ≤ 0 by decide, show lg 1 ≤ 0 by decide, by decide, by decide, by decide⟩)) (forward_sz hy.b hJ) (mv_sz hy) (by decide) (by decide) (by decide)) (ev_Qmul (ev_call (ea1 (ev_var rfl)) (us_backward s hy.b)) (ev_var rfl) (backward_sz hy.b) hy.mz.z (by decide) (by decide) (by decide)) (r1_sz hy) (r2_sz hy) (by decide) (by decide) (by decide) (by decide) (by decide)) rn_is rn_is (us_Qeq (rhs s J m) trivial)) q
abbrev Pr_istel (P : Program) (w : World) (K : Frag) (mg : Str → Option Value) (base : Heap) : Prop := Pr P w K mg base 48 (ga K "is_telescoper") ["binomial_sum", "order", "operator", "m"] [] (sp_istel K)
theorem ok_istel (N : En P K mg base) : Pr_istel P w K mg base := by
  obtain ⟨fd, F, h⟩ := fn_istel (w := w) N
  exact pr_mk F h (F.bindsN fun _ _ _ _ _ _ us hl => match us, hl with | [_, _, _, _], _ => rfl)
abbrev LeftOk (l rows : Mx) (w : Nat) : Prop := (∃ a b, (∀ i c, SzF b (mGet rows i c)) ∧ (∀ r ∈ l, (∀ f ∈ r, SzF a f) ∧ (r.length + 1) * (a + b + 3) < 130000000 ∧ r.length ≤ rows.length ∧ (∀ i, i < r.length → w ≤ (rows.getD i []).length) ∧ r.length ≤ 100000) ∧ w ≤ 100000 ∧ l.length ≤ 100000) ∧ l.length = w ∧ (∀ r ∈ l, r.length = rows.length) ∧ mMul l rows w = mIden w
structure NoneOk (s : Bsum) (J N : Nat) (m : Mx) : Prop where
  b : BOk s
  J2 : J ≤ 2
  cd : cdeg s J ≤ 5
  at_ : ∃ a b L, (∀ r ∈ eqRows s J, r.length ≤ 100000 ∧ ∀ x ∈ r, ZP a L x) ∧ lg (N : Int) ≤ b ∧ a + L * (b + 2) + b < 130000000 ∧ (eqRows s J).length ≤ 100000
  left : LeftOk m (ratM (eqRows s J) N) (eqW s J)
def AccOk (s : Bsum) : Cert → Prop
  | .no J N m => NoneOk s J N m
  | .tel J op m => TelOk s J op m
abbrev sn_accepts : List Str := ["binomial_sum", "certificate", "order", "rows", "width", "inserted", "row", "entry"]
theorem sc_accepts : FnScope sn_accepts ["binomial_sum", "certificate"] (defScope s_accepts) := ⟨rfl, rfl, rfl, by decide +kernel, rfl, by decide +kernel, by decide +kernel⟩
abbrev sp_accepts (K : Frag) : Sp := SpG (ι := Bsum × Cert) (fun p => AccOk p.1 p.2) (fun p => [RBs K p.1, RCert K p.2]) (fun _ => RB true)
theorem us_accepts {K : Frag} (i : Bsum × Cert) (h : (fun p => AccOk p.1 p.2) i) : ∀ vs H Q E, SpF ((fun p => [RBs K p.1, RCert K p.2]) i) ((fun _ => RB true) i) vs H Q E → sp_accepts K vs H Q E := fun _ _ _ _ q => ⟨i, h, q⟩
abbrev Fn_accepts (P : Program) (w : World) (K : Frag) (mg : Str → Option Value) (base : Heap) : Prop := ∃ fd, DefF K "accepts_recurrence" "accepts_recurrence" s_accepts [] [] (ga K "accepts_recurrence") fd ∧ FnOk P w K mg base CX0 50 (ga K "accepts_recurrence") fd ["binomial_sum", "certificate"] (sp_accepts K)
theorem fn_accepts (N : En P K mg base) : Fn_accepts P w K mg base := by
  have h_istel := ok_istel (w := w) N
  have h_equations := ok_equations (w := w) N
  have h_Pat := ok_Pat (w := w) N
  have h_isleft := ok_isleft (w := w) N
  obtain ⟨T, S, ns, tr⟩ := N
  obtain ⟨fd, F⟩ := S.def_ 75
  refine ⟨fd, F, def_ok F sc_accepts (fun _ => rfl) fun cdv A' outer s H E hr => ⟨_, (pss_cons (ps_if (PW.pt (pw_and (pt_cmpR op_ne (pe_ix ix_tup (pv 1) pe_int (fun _ _ => rfl)) pe_str (nomark _)) (pw_and1 (pt_cmpR op_ne (pe_ix ix_tup (pv 1) pe_int (fun _ _ => rfl)) pe_str (nomark _))))) (pss_one (ps_ret pe_bl)) pss_nil)
      (pss_cons (ps_set (i := 2) sc_accepts.nd rfl (Or.inl rfl) (pe_ix ix_tup (pv 1) pe_int (fun _ _ => rfl)))
      (pss_cons (ps_if (pt_cmpR op_lt (pv 2) pe_int (nomark _)) (pss_one (ps_ret pe_bl)) pss_nil)
      (pss_cons (ps_if (pt_cmpR op_eq (pe_ix ix_tup (pv 1) pe_int (fun _ _ => rfl)) pe_str (nomark _)) (pss_one (ps_ret (pe_callP h_istel hr (by decide) rfl T.g_istel (pa_cons (pv 0) (pa_cons (pv 2) (pa_cons (pe_ix ix_tup (pv 1) pe_int (fun _ _ => rfl)) (pa_cons (pe_ix ix_tup (pv 1) pe_int (fun _ _ => rfl)) pa_nil))))))) pss_nil)
      (pss_cons (ps_asg (pe_callP h_equations hr (by decide) rfl T.g_equations (pa_cons (pv 0) (pa_cons (pv 2) pa_nil))) (pg_tup rfl (pgs_cons (pg_name (i := 3) sc_accepts.nd rfl (Or.inl rfl)) (pgs_cons (pg_name (i := 4) sc_accepts.nd rfl (Or.inl rfl)) pgs_nil))))
      (pss_cons (ps_setLc (i := 5) (own := [("row", 6)]) (g := gName 6) (by rfl) sc_accepts.nd rfl rfl (sw_true rfl rfl rfl (by decide +kernel)) (pi_list (pv 3)) (blkOk_by (own := [("row", 6)]) (N := sn_accepts) (sc := defScope s_accepts) (by decide +kernel)) (fun _ _ _ _ _ => (pg_name (i := 6) sc_accepts.nd rfl (by first | exact Or.inl rfl | exact Or.inr rfl))) (fun _ _ _ _ _ => pts_nil) (fun _ _ _ _ _ => (pe_lc (own := [("entry", 7)]) (g := gName 7) (by rfl) sc_accepts.nd (pi_listK K rfl (pv 6)) (blkOk_by (own := [("entry", 7)]) (N := sn_accepts) (by kernel_rfl)) (fun _ _ _ _ _ => (pg_name (i := 7) sc_accepts.nd rfl (by first | exact Or.inl rfl | exact Or.inr rfl))) (fun _ _ _ _ _ => pts_nil) (fun _ _ _ _ _ => (pe_methP h_Pat hr (by decide) T.c_P T.m_Pat (pv 7) (pa_cons (pe_ix (ix_tupK K rfl) (pv 1) pe_int (fun _ _ => rfl)) pa_nil))))))
      (pss_one (ps_ret (pe_callP h_isleft hr (by decide) rfl T.g_isleft (pa_cons (pe_ix ix_tup (pv 1) pe_int (fun _ _ => rfl)) (pa_cons (pv 5) (pa_cons (pv 4) pa_nil)))))))))))), fun i hy F0 H0 Q q => ?_⟩⟩
  obtain ⟨s, c⟩ := i
  replace hy : AccOk s c := hy
  change SJ F0 H0 _ (ctx [RBs K s, RCert K c] _) _
  cases c with
  | tel J op m =>
    have hc : RCert K (.tel J op m) = RT [RK (.str "recurrence"), RI (J : Int), RO K op, RQ K m] := rfl
    rw [hc]
    refine q_skip (et_is (et_and (a := false) (b := true) (et_is (et_test (ev_ne (ev_ixT (n := 0) (ev_var rfl) ev_c rfl) ev_c rfl)) (by decide)) fun h => by cases h) rfl) ?_
    refine q_asg (ev_ixT (n := 1) (ev_var rfl) ev_c rfl) ?_
    refine q_skip (et_is (et_I (ev_var rfl) ev_c) (decide_eq_false (by omega))) ?_
    refine q_when (b := true) (et_is (et_test (ev_eq (ev_ixT (n := 0) (ev_var rfl) ev_c rfl) ev_c rfl)) (by decide)) (fun _ => ?_) (fun h => by cases h)
    exact sj_ret (ev_call (ea_cons (ev_var rfl) (ea_cons (ev_var rfl) (ea2 (ev_ixT (n := 2) (ev_var rfl) ev_c rfl) (ev_ixT (n := 3) (ev_var rfl) ev_c rfl)))) (us_istel (s, J, op, m) hy)) q
  | no J N m =>
    obtain ⟨hb, hJ, hcd, ⟨a, b, L, h1, h2, h3, h4⟩, hleft⟩ := hy
    have hc : RCert K (.no J N m) = RT [RK (.str "none"), RI (J : Int), RI (N : Int), RT (m.map fun r : List Fr => RT (r.map (RF K)))] := rfl
    rw [hc]
    refine q_skip (et_is (et_and (a := true) (b := false) (et_is (et_test (ev_ne (ev_ixT (n := 0) (ev_var rfl) ev_c rfl) ev_c rfl)) (by decide)) fun _ => et_is (et_test (ev_ne (ev_ixT (n := 0) (ev_var rfl) ev_c rfl) ev_c rfl)) (by decide)) rfl) ?_
    refine q_asg (ev_ixT (n := 1) (ev_var rfl) ev_c rfl) ?_
    refine q_skip (et_is (et_I (ev_var rfl) ev_c) (decide_eq_false (by omega))) ?_
    refine q_skip (et_is (et_test (ev_eq (ev_ixT (n := 0) (ev_var rfl) ev_c rfl) ev_c rfl)) (by decide)) ?_
    refine q_pair (Ra := RPM K (eqRows s J)) (Rb := RI (eqW s J : Int)) (ev_call (ea2 (ev_var rfl) (ev_var rfl)) (us_equations (s, J) ⟨hb, hJ, hcd⟩)) ?_
    refine q_asg (EO.ev (eo_lcL (Rs := (ratM (eqRows s J) N).map (RFL K)) (ev_var rfl) (by unfold ratM; rw [List.length_map, List.length_map, List.length_map]) (by unfold ratM; rw [List.length_map, List.length_map]; omega) (fun T hT => cond_mov rfl rfl hT) fun i S R hS hR => ?_)) ?_
    · obtain ⟨hi, rfl⟩ := map_get [] hS
      unfold ratM at hR
      rw [List.map_map] at hR
      obtain ⟨_, rfl⟩ := map_get (f := RFL K ∘ fun r => r.map fun p => pAt p (N : Int)) [] hR
      obtain ⟨g1, g2⟩ := h1 _ (getD_memL (d := []) hi)
      refine EO.ev (eo_lcL (Rs := (((eqRows s J).getD i []).map fun p => pAt p (N : Int)).map (RF K)) (ev_var rfl) (by rw [List.length_map, List.length_map, List.length_map]) (by rw [List.length_map, List.length_map]; omega) (fun T hT => cond_mov rfl rfl hT) fun j S R hS hR => ?_)
      obtain ⟨hj, rfl⟩ := map_get p0 hS
      rw [List.map_map] at hR
      obtain ⟨_, rfl⟩ := map_get (f := RF K ∘ fun p => pAt p (N : Int)) p0 hR
      have g := g2 _ (getD_memL (d := p0) hj)
      refine ev_meth (ev_var rfl) (rn_no (by decide)) (ea1 (ev_ixT (n := 2) (ev_var rfl) ev_c rfl)) (us_Pat (((eqRows s J).getD i []).getD j p0, (N : Int)) ⟨a, b, g.1, h2, ?_⟩)
      have := Nat.mul_le_mul_right (b + 2) g.2
      show a + (((eqRows s J).getD i []).getD j p0).co.length * (b + 2) + b < 130000000
      omega
    exact sj_ret (ev_call (ea_cons (ev_ixT (n := 3) (ev_var rfl) ev_c rfl) (ea2 (ev_var rfl) (ev_var rfl))) (us_isleft (m, ratM (eqRows s J) N, eqW s J) hleft)) q
abbrev Pr_accepts (P : Program) (w : World) (K : Frag) (mg : Str → Option Value) (base : Heap) : Prop := Pr P w K mg base 50 (ga K "accepts_recurrence") ["binomial_sum", "certificate"] [] (sp_accepts K)
theorem ok_accepts (N : En P K mg base) : Pr_accepts P w K mg base := by
  obtain ⟨fd, F, h⟩ := fn_accepts (w := w) N
  exact pr_mk F h (F.bindsN fun _ _ _ _ _ _ us hl => match us, hl with | [_, _], _ => rfl)
end
end G
end
section
set_option maxRecDepth 100000
set_option maxHeartbeats 4000000
namespace G
open PySem PySem.Spec PyProof.Rows L2 He
open _root_.RT (ItvT iRevA pi_revA)
section
variable {P : Program} {w : World} {K : Frag} {mg : Str → Option Value} {base : Heap}
/-- the script -/
def RSc (K : Frag) (ns : List Int) : Rp := ⟨fun v F => ∃ a, v = .ref a ∧ SqL K F a (ns.map V.int), fun _ _ _ e ⟨a, h1, h2⟩ => ⟨a, h1, h2.ext e⟩⟩
abbrev RLL (w : List (List Int)) : Rp := RL (w.map fun r => RL (r.map RI))
abbrev RPs (p : Parts) : Rp := RL [RLL p.wt, RI p.num, RI p.den, RI (p.ch : Int), RI (p.ri : Int), RI (p.ce : Int)]
section
variable {Γ : List Ty} {ta tb te : TE} {R Ra Rb : Rp} {i j : Int} {b c : Bool}
theorem ev_lenSc {l : List Int} (ha : EV Γ ta (RSc K l)) : EV Γ (tCB (rLenS K) (tCons ta tNil)) (RI (l.length : Nat)) := fun H0 F H σ e k Q q =>
  ha H0 F H σ e k _ fun v F1 H1 l1 r1 => by
    obtain ⟨a, rfl, h1⟩ := r1
    refine ⟨a, _, rfl, .inl (h1.ext l1.s), ?_⟩
    rw [List.length_map]
    exact q _ F1 H1 l1 rfl
theorem ev_ixSc {l : List Int} {n : Nat} (ha : EV Γ ta (RSc K l)) (hb : EV Γ tb (RI (n : Int))) (hn : n < l.length) : EV Γ (tOp (rIxL K) ta tb) (RI (l.getD n 0)) :=
  ev_op ha hb fun x y F H Q e r1 r2 q => by
    obtain ⟨a, rfl, h1⟩ := r1
    cases (show y = .int (n : Int) from r2)
    have hg : (l.map V.int)[n]? = some (.int (l.getD n 0)) := by
      rw [List.getElem?_map, List.getD_eq_getElem?_getD, List.getElem?_eq_getElem hn]
      rfl
    exact ⟨a, _, _, _, rfl, rfl, h1.ext e, atI_nat hg, q _ F H (Le.refl e) rfl⟩
theorem ev_mod (ha : EV Γ ta (RI i)) (hb : EV Γ tb (RI j)) (hc : j ≠ 0) : EV Γ (tOp (rI (fun _ j => j ≠ 0) fun i j => .int (i.fmod j)) ta tb) (RI (i.fmod j)) := ev_IC ha hb hc
/-- == of lists of lists of ints -/
theorem dp_rows {F H : Hp} (e : Ex F H) : ∀ {w : List (List Int)} {vs : List V}, Its (w.map fun r => RL (r.map RI)) vs F → DpAll K H vs (w.map fun r => PyData.list (r.map PyData.int))
  | [], [], _ => .nil
  | r :: w, v :: vs, h => by
    obtain ⟨a, us, rfl, ha, it⟩ := h.1
    have ei := it.ints
    subst ei
    exact .cons (.lst (.inl (.inl (e _ _ ha))) (dp_ints r)) (dp_rows e h.2)
theorem lay_rows : ∀ (w : List (List Int)), PyData.canLayAll0 (w.map fun r => PyData.list (r.map PyData.int)) = true
  | [] => rfl
  | r :: w => by
    rw [List.map_cons]
    unfold PyData.canLayAll0
    rw [lay_rows w]
    unfold PyData.canLay0
    rw [lay_ints]
    rfl
theorem depth_rows : ∀ (w : List (List Int)), PyData.depthAll (w.map fun r => PyData.list (r.map PyData.int)) ≤ 1
  | [] => by unfold PyData.depthAll; exact Nat.zero_le _
  | r :: w => by
    rw [List.map_cons]
    have h := depth_rows w
    unfold PyData.depthAll PyData.depth
    rw [depth_ints]
    exact Nat.max_le.mpr ⟨Nat.le_refl _, h⟩
theorem shaped_rows (w : List (List Int)) : SeqAt.shaped (.list (w.map fun r => PyData.list (r.map PyData.int))) = true := by
  have h := depth_rows w
  unfold SeqAt.shaped PyData.canLay0
  rw [lay_rows]
  unfold PyData.depth
  rw [Bool.true_and]
  exact decide_eq_true (by omega)
theorem eqv_rows : ∀ (w u : List (List Int)), PyData.eqvAll (w.map fun r => PyData.list (r.map PyData.int)) (u.map fun r => PyData.list (r.map PyData.int)) = decide (w = u)
  | [], [] => by unfold PyData.eqvAll; simp
  | [], _ :: _ => by unfold PyData.eqvAll; simp
  | _ :: _, [] => by unfold PyData.eqvAll; simp
  | x :: w, y :: u => by
    rw [List.map_cons, List.map_cons]
    unfold PyData.eqvAll
    rw [eqv_rows w u]
    unfold PyData.eqv
    rw [eqv_ints, Bool.eq_iff_iff]
    simp
theorem ev_eqLL {w u : List (List Int)} (ha : EV Γ ta (RLL w)) (hb : EV Γ tb (RLL u)) : EV Γ (tOp (rEqD K) ta tb) (RB (decide (w = u))) :=
  ev_op ha hb fun x y F H Q e r1 r2 q => by
    obtain ⟨p, vs, rfl, h1, it⟩ := r1
    obtain ⟨p2, us, rfl, h2, it2⟩ := r2
    refine ⟨.list (w.map fun r => .list (r.map .int)), .list (u.map fun r => .list (r.map .int)), .lst (.inl (.inl (e _ _ h1))) (dp_rows e it), .lst (.inl (.inl (e _ _ h2))) (dp_rows e it2), shaped_rows w, shaped_rows u, ?_⟩
    rw [show PyData.eqv (.list (w.map fun r => .list (r.map .int))) (.list (u.map fun r => .list (r.map .int))) = decide (w = u) from by unfold PyData.eqv; exact eqv_rows w u]
    exact q _ F H (Le.refl e) rfl
theorem eo_lst2 {tl : TA} {R1 R2 : Rp} (h : EA Γ tl [R1, R2]) : EO Γ (tLst tl) [R1, R2] := eo_lst h (by simp)
/-- if test: x = e, a value in both cases -/
theorem q_ifV {F0 H0 : Hp} {D : Ends} {tz : TS} {tt : TT} {i : Nat} {te : TE} (h : ET Γ tt b) (h1 : b = true → ∃ R0, R0 = R ∧ EV Γ te R0) (h2 : b = false → ∃ R0, Γ[i]? = some (.fz R0) ∧ R0 = R) (k : SJ F0 H0 D (Γ.set i (.fz R)) tz) : SJ F0 H0 D Γ (tSeq (tIfS tt (tAsg te (gName i)) tNext) tz) := by
  refine q_if h (fun hb => ?_) fun hb => ?_
  · obtain ⟨R0, rfl, e⟩ := h1 hb
    exact sj_asg e k
  · obtain ⟨R0, e, rfl⟩ := h2 hb
    refine sj_next ?_
    have e2 : Γ.set i (.fz R0) = Γ := by
      apply List.ext_getElem?
      intro m
      rw [List.getElem?_set]
      split
      · rename_i z
        subst z
        split
        · rw [e]
        · rename_i z; rw [List.getElem?_eq_none (by omega)]
      · rfl
    rw [e2] at k
    exact k
theorem lg_fmod {x m : Int} {k : Nat} (hm : 0 < m) (h : m.natAbs < 2 ^ (k + 1)) : lg (x.fmod m) ≤ k := by
  have h1 := Int.fmod_nonneg_of_pos x hm
  have h2 := Int.fmod_lt_of_pos x hm
  exact lg_lt (by omega)
end
abbrev sn_Lnum : List Str := ["_law_script", "_law_count", "_law_rest", "_law_by_digits", "_law_numbers_here", "_law_k", "_law_cell"]
theorem sc_Lnum : FnScope sn_Lnum ["_law_script", "_law_count"] (defScope s_Lnum) := ⟨rfl, rfl, rfl, by decide +kernel, rfl, by decide +kernel, by decide +kernel⟩
abbrev sp_Lnum (K : Frag) : Sp := SpG (ι := List Int × Nat) (fun p => (∀ z ∈ p.1, lg z ≤ 2000000) ∧ p.2 ≤ 1000) (fun p => [RSc K p.1, RI (p.2 : Int)]) (fun p => RL ((lNums p.1 p.2).map RI))
theorem us_Lnum {K : Frag} (i : List Int × Nat) (h : (fun p => (∀ z ∈ p.1, lg z ≤ 2000000) ∧ p.2 ≤ 1000) i) : ∀ vs H Q E, SpF ((fun p => [RSc K p.1, RI (p.2 : Int)]) i) ((fun p => RL ((lNums p.1 p.2).map RI)) i) vs H Q E → sp_Lnum K vs H Q E := fun _ _ _ _ q => ⟨i, h, q⟩
abbrev Fn_Lnum (P : Program) (w : World) (K : Frag) (mg : Str → Option Value) (base : Heap) : Prop := ∃ fd, DefF K "_law_numbers" "_law_numbers" s_Lnum [] [] (ga K "_law_numbers") fd ∧ FnOk P w K mg base CX0 41 (ga K "_law_numbers") fd ["_law_script", "_law_count"] (sp_Lnum K)
theorem fn_Lnum (N : En P K mg base) : Fn_Lnum P w K mg base := by
  obtain ⟨T, S, ns, tr⟩ := N
  obtain ⟨fd, F⟩ := S.def_ 78
  refine ⟨fd, F, def_ok F sc_Lnum (fun _ => rfl) fun cdv A' outer s H E hr => ⟨_, (pss_cons (ps_set (i := 2) sc_Lnum.nd rfl (Or.inl rfl) pe_int)
      (pss_cons (ps_if (pt_cmpR op_gt (pe_callB call_len_seq (by rfl) T.n_len PySem.boot_len (pa_cons (pv 0) pa_nil)) pe_int (nomark _)) (pss_one (ps_set (i := 2) sc_Lnum.nd rfl (Or.inl rfl) (pe_ix ix_list (pv 0) pe_int (fun _ _ => rfl)))) pss_nil)
      (pss_cons (ps_set (i := 3) sc_Lnum.nd rfl (Or.inl rfl) (pe_cmpR op_ge (pv 2) (pe_op op_pow pe_int pe_int) (nomark _)))
      (pss_cons (ps_set (i := 4) sc_Lnum.nd rfl (Or.inl rfl) (pe_lst pa_nil))
      (pss_cons (ps_for PassesOwn.never rfl (pi_range1 rfl T.n_range (pa_cons (pv 1) pa_nil)) (pg_name (i := 5) sc_Lnum.nd rfl (Or.inl rfl)) (pss_one (ps_if (PW.pt (pw_and (pt_val (pv 3)) (pw_and1 (pt_cmpR op_gt (pv 2) pe_int (nomark _))))) (pss_cons (ps_expr (pe_bm PySem.F.plainAttrs_list PySem.F.slot_list_append PySem.F.type_list_append mt_append (pv 4) (pa_cons (pe_op op_modN (pv 2) pe_int) pa_nil)))
      (pss_one (ps_set (i := 2) sc_Lnum.nd rfl (Or.inl rfl) (pe_op (op_fdivP (qu_of ns tr sc_Lnum) hr (by decide)) (pv 2) pe_int)))) (pss_cons (ps_set (i := 6) sc_Lnum.nd rfl (Or.inl rfl) pe_int)
      (pss_cons (ps_if (pt_cmpR op_gt (pe_callB call_len_seq (by rfl) T.n_len PySem.boot_len (pa_cons (pv 0) pa_nil)) pe_int (nomark _)) (pss_one (ps_set (i := 6) sc_Lnum.nd rfl (Or.inl rfl) (pe_op op_add (pe_ix ix_list (pv 0) (pe_op op_modN (pv 5) (pe_callB call_len_seq (by rfl) T.n_len PySem.boot_len (pa_cons (pv 0) pa_nil))) (fun _ _ => rfl)) (pe_op op_mulB pe_int (pv 5))))) pss_nil)
      (pss_one (ps_expr (pe_bm PySem.F.plainAttrs_list PySem.F.slot_list_append PySem.F.type_list_append mt_append (pv 4) (pa_cons (pe_op op_modN (pe_op op_modN (pe_op op_mulB (pe_op op_modN (pe_op op_mulB (pv 6) pe_int) pe_int) pe_int) pe_int) pe_int) pa_nil)))))))))
      (pss_one (ps_ret (pv 4)))))))), fun i hy F0 H0 Q q => ?_⟩⟩
  obtain ⟨sc, n⟩ := i
  replace hy : (∀ z ∈ sc, lg z ≤ 2000000) ∧ n ≤ 1000 := hy
  change SJ F0 H0 _ (ctx [RSc K sc, RI (n : Int)] _) _
  obtain ⟨hz, hn⟩ := hy
  refine q_asg ev_c ?_
  have hg : ∀ i, lg (sc.getD i 0) ≤ 2000000 := fun i => lg_getD hz i
  have rest : SJ F0 H0 { nx := fun _ H' => Q .non H', rt := Q } [.fz (RSc K sc), .fz (RI (n : Int)), .fz (RI (lFirst sc)), .any, .any, .any, .any] (tSeq (tAsg (tOp (rI0 fun i j => .bl (decide (i ≥ j))) (tVar 2) (tOp (rI CPow fun i j => .int (i ^ j.toNat)) (tC (.int 10)) (tC (.int 18)))) (gName 3)) (tSeq (tAsg (tLst tNil) (gName 4)) (tSeq (tFor (iRng1 (tCons (tVar 1) tNil)) (gName 5) (tIfS (tAnd (tB (tVar 3)) (tTest (tOp (rI0 fun i j => .bl (decide (i > j))) (tVar 2) (tC (.int 0))))) (tSeq (tDrop (tBM K "list" rAppend (tVar 4) (tCons (tOp (rI (fun _ j => j ≠ 0) fun i j => .int (i.fmod j)) (tVar 2) (tC (.int 1000000))) tNil))) (tAsg (tOp rFdiv (tVar 2) (tC (.int 1000000))) (gName 2))) (tSeq (tAsg (tC (.int 13)) (gName 6)) (tSeq (tIfS (tTest (tOp (rI0 fun i j => .bl (decide (i > j))) (tCB (rLenS K) (tCons (tVar 0) tNil)) (tC (.int 0)))) (tAsg (tOp (rI0 fun i j => .int (i + j)) (tOp (rIxL K) (tVar 0) (tOp (rI (fun _ j => j ≠ 0) fun i j => .int (i.fmod j)) (tVar 5) (tCB (rLenS K) (tCons (tVar 0) tNil)))) (tOp rMulB (tC (.int 7919)) (tVar 5))) (gName 6)) tNext) (tDrop (tBM K "list" rAppend (tVar 4) (tCons (tOp (rI (fun _ j => j ≠ 0) fun i j => .int (i.fmod j)) (tOp (rI (fun _ j => j ≠ 0) fun i j => .int (i.fmod j)) (tOp rMulB (tOp (rI (fun _ j => j ≠ 0) fun i j => .int (i.fmod j)) (tOp rMulB (tVar 6) (tC (.int 48271))) (tC (.int 2147483647))) (tC (.int 69621))) (tC (.int 2147483629))) (tC (.int 1000000))) tNil))))))) (tRet (tVar 4))))) := by
    refine q_asg (ev_b (ev_I (ev_var rfl) (ev_IC ev_c ev_c ⟨by decide, by decide, by decide⟩)) (show decide (lFirst sc ≥ 10 ^ Int.toNat 18) = lBd sc from rfl)) ?_
    refine q_asgO (eo_lst ea_nil (by simp)) ?_
    refine q_for1 (n := (n : Int)) (ea1 (ev_var rfl)) (by omega) (by omega) (fun k => [.fz (RSc K sc), .fz (RI (n : Int)), .fz (RI (lNsN sc k).rest), .fz (RB (lBd sc)), .own ((lNsN sc k).ns.map RI), .any, .any]) ⟨.inr rfl, .inr rfl, .inr rfl, .inr rfl, .inr rfl, .inl rfl, .inl rfl, trivial⟩ (fun k hk => ?_) ?_
    · have hlen := lNsN_len sc k
      have es : lNsN sc (k + 1) = lStep sc (lBd sc) k (lNsN sc k) := rfl
      have hk2 : lg (k : Int) ≤ 10 := lg_lt (by omega)
      refine sj_if (et_and (b := decide ((lNsN sc k).rest > 0)) (et_B (ev_var rfl)) fun _ => et_I (ev_var rfl) ev_c) (fun hb => ?_) fun hb => ?_
      · have e2 : lNsN sc (k + 1) = ⟨(lNsN sc k).ns ++ [(lNsN sc k).rest.fmod 1000000], (lNsN sc k).rest.fdiv 1000000⟩ := by
          rw [es]; unfold lStep; rw [if_pos hb]
        refine q_app rfl (ev_mod (ev_var rfl) ev_c (by decide)) (by rw [List.length_map]; omega) ?_
        refine sj_asg (ev_fdv (ev_var rfl) ev_c (by decide)) ?_
        rw [e2]
        refine nx_sub ⟨.inr rfl, .inr rfl, .inr rfl, .inr rfl, .inr ?_, .inl rfl, .inl rfl, trivial⟩
        rw [List.map_append]
        rfl
      · have e2 : lNsN sc (k + 1) = ⟨(lNsN sc k).ns ++ [lMix (lCell sc k)], (lNsN sc k).rest⟩ := by
          rw [es]; unfold lStep; rw [if_neg (by rw [hb]; exact Bool.false_ne_true)]
        refine q_asg ev_c ?_
        have hcell : lg (lCell sc k) ≤ 2000100 := by
          unfold lCell
          split
          · exact lg_addb (a := 2000099) (Nat.le_trans (hg _) (by decide)) (Nat.le_trans (lg_mulb (a := 12) (b := 10) (show lg 7919 ≤ 12 by decide) hk2) (by decide))
          · exact Nat.le_trans (show lg 13 ≤ 3 by decide) (by decide)
        have rest2 : SJ F0 H0 { nx := PV F0 H0 [.fz (RSc K sc), .fz (RI (n : Int)), .fz (RI (lNsN sc (k + 1)).rest), .fz (RB (lBd sc)), .own ((lNsN sc (k + 1)).ns.map RI), .any, .any], rt := Q, ct := PV F0 H0 [.fz (RSc K sc), .fz (RI (n : Int)), .fz (RI (lNsN sc (k + 1)).rest), .fz (RB (lBd sc)), .own ((lNsN sc (k + 1)).ns.map RI), .any, .any], bk := tRet (tVar 4) { nx := fun _ H' => Q .non H', rt := Q } } [.fz (RSc K sc), .fz (RI (n : Int)), .fz (RI (lNsN sc k).rest), .fz (RB (lBd sc)), .own ((lNsN sc k).ns.map RI), .fz (RI (k : Int)), .fz (RI (lCell sc k))] (tDrop (tBM K "list" rAppend (tVar 4) (tCons (tOp (rI (fun _ j => j ≠ 0) fun i j => .int (i.fmod j)) (tOp (rI (fun _ j => j ≠ 0) fun i j => .int (i.fmod j)) (tOp rMulB (tOp (rI (fun _ j => j ≠ 0) fun i j => .int (i.fmod j)) (tOp rMulB (tVar 6) (tC (.int 48271))) (tC (.int 2147483647))) (tC (.int 69621))) (tC (.int 2147483629))) (tC (.int 1000000))) tNil))) := by
          refine sj_app rfl (ev_mod (ev_mod (ev_mul (ev_mod (ev_mul (ev_var rfl) ev_c (cmul hcell (show lg 48271 ≤ 20 by decide) (by decide))) ev_c (by decide)) ev_c (cmul (lg_fmod (k := 31) (by decide) (by decide)) (show lg 69621 ≤ 20 by decide) (by decide))) ev_c (by decide)) ev_c (by decide)) (by rw [List.length_map]; omega) ?_
          rw [e2]
          refine nx_sub ⟨.inr rfl, .inr rfl, .inr rfl, .inr rfl, .inr ?_, .inl rfl, .inl rfl, trivial⟩
          rw [List.map_append]
          rfl
        refine q_if (et_I (ev_lenSc (ev_var rfl)) ev_c) (fun h2 => ?_) fun h2 => ?_
        · have h3 : sc.length > 0 := by have := of_decide_eq_true h2; omega
          have hmod : ((k : Int)).fmod ((sc.length : Nat) : Int) = ((k % sc.length : Nat) : Int) := by
            rw [Int.fmod_eq_emod_of_nonneg _ (by omega)]
            omega
          refine sj_asg (ev_i (ev_add (ev_ixSc (n := k % sc.length) (ev_var rfl) (ev_i (ev_mod (ev_var rfl) (ev_lenSc (ev_var rfl)) (by omega)) hmod) (Nat.mod_lt _ h3)) (ev_mul ev_c (ev_var rfl) (cmul (show lg 7919 ≤ 12 by decide) hk2 (by decide)))) ?_) rest2
          unfold lCell
          rw [if_pos h3]
        · have h3 : ¬ sc.length > 0 := by have := of_decide_eq_false h2; omega
          refine sj_next ?_
          have e3 : lCell sc k = 13 := by unfold lCell; rw [if_neg h3]
          rw [e3] at rest2
          exact rest2
    · rw [Int.toNat_natCast]
      refine sj_freeze (i := 4) rfl ?_
      exact sj_ret (ev_var rfl) q
  refine q_if (et_I (ev_lenSc (ev_var rfl)) ev_c) (fun h2 => ?_) fun h2 => ?_
  · have h3 : sc.length > 0 := by have := of_decide_eq_true h2; omega
    refine sj_asg (ev_i (ev_ixSc (n := 0) (ev_var rfl) ev_c h3) ?_) rest
    unfold lFirst
    rw [if_pos h3]
  · have h3 : ¬ sc.length > 0 := by have := of_decide_eq_false h2; omega
    refine sj_next ?_
    have e3 : lFirst sc = 0 := by unfold lFirst; rw [if_neg h3]
    rw [e3] at rest
    exact rest
abbrev Pr_Lnum (P : Program) (w : World) (K : Frag) (mg : Str → Option Value) (base : Heap) : Prop := Pr P w K mg base 41 (ga K "_law_numbers") ["_law_script", "_law_count"] [] (sp_Lnum K)
theorem ok_Lnum (N : En P K mg base) : Pr_Lnum P w K mg base := by
  obtain ⟨fd, F, h⟩ := fn_Lnum (w := w) N
  exact pr_mk F h (F.bindsN fun _ _ _ _ _ _ us hl => match us, hl with | [_, _], _ => rfl)
abbrev sn_Lpow : List Str := ["_law_base", "_law_count", "_law_result", "_law_k"]
theorem sc_Lpow : FnScope sn_Lpow ["_law_base", "_law_count"] (defScope s_Lpow) := ⟨rfl, rfl, rfl, by decide +kernel, rfl, by decide +kernel, by decide +kernel⟩
abbrev sp_Lpow (K : Frag) : Sp := SpG (ι := Int × Nat) (fun p => lg p.1 ≤ 2 ∧ p.2 ≤ 10) (fun p => [RI p.1, RI (p.2 : Int)]) (fun p => RI (powI p.1 p.2))
theorem us_Lpow {K : Frag} (i : Int × Nat) (h : (fun p => lg p.1 ≤ 2 ∧ p.2 ≤ 10) i) : ∀ vs H Q E, SpF ((fun p => [RI p.1, RI (p.2 : Int)]) i) ((fun p => RI (powI p.1 p.2)) i) vs H Q E → sp_Lpow K vs H Q E := fun _ _ _ _ q => ⟨i, h, q⟩
abbrev Fn_Lpow (P : Program) (w : World) (K : Frag) (mg : Str → Option Value) (base : Heap) : Prop := ∃ fd, DefF K "_law_power" "_law_power" s_Lpow [] [] (ga K "_law_power") fd ∧ FnOk P w K mg base CX0 41 (ga K "_law_power") fd ["_law_base", "_law_count"] (sp_Lpow K)
theorem fn_Lpow (N : En P K mg base) : Fn_Lpow P w K mg base := by
  obtain ⟨T, S, ns, tr⟩ := N
  obtain ⟨fd, F⟩ := S.def_ 79
  refine ⟨fd, F, def_ok F sc_Lpow (fun _ => rfl) fun cdv A' outer s H E hr => ⟨_, (pss_cons (ps_set (i := 2) sc_Lpow.nd rfl (Or.inl rfl) pe_int)
      (pss_cons (ps_for PassesOwn.never rfl (pi_range1 rfl T.n_range (pa_cons (pv 1) pa_nil)) (pg_name (i := 3) sc_Lpow.nd rfl (Or.inl rfl)) (pss_one (ps_set (i := 2) sc_Lpow.nd rfl (Or.inl rfl) (pe_op op_mulB (pv 2) (pv 0)))))
      (pss_one (ps_ret (pv 2))))), fun i hy F0 H0 Q q => ?_⟩⟩
  obtain ⟨x, n⟩ := i
  replace hy : lg x ≤ 2 ∧ n ≤ 10 := hy
  change SJ F0 H0 _ (ctx [RI x, RI (n : Int)] _) _
  obtain ⟨hx, hn⟩ := hy
  refine q_asg ev_c ?_
  refine q_for1 (n := (n : Int)) (ea1 (ev_var rfl)) (by omega) (by omega) (fun i => [.fz (RI x), .fz (RI (n : Int)), .fz (RI (powI x i)), .any]) ⟨.inr rfl, .inr rfl, .inr rfl, .inl rfl, trivial⟩ (fun i hi => ?_) ?_
  · exact sj_asg (ev_mul (ev_var rfl) (ev_var rfl) (cmul (lg_powI hx i) hx (by omega))) (nx_sub ⟨.inr rfl, .inr rfl, .inr rfl, .inl rfl, trivial⟩)
  · rw [Int.toNat_natCast]
    exact sj_ret (ev_var rfl) q
abbrev Pr_Lpow (P : Program) (w : World) (K : Frag) (mg : Str → Option Value) (base : Heap) : Prop := Pr P w K mg base 41 (ga K "_law_power") ["_law_base", "_law_count"] [] (sp_Lpow K)
theorem ok_Lpow (N : En P K mg base) : Pr_Lpow P w K mg base := by
  obtain ⟨fd, F, h⟩ := fn_Lpow (w := w) N
  exact pr_mk F h (F.bindsN fun _ _ _ _ _ _ us hl => match us, hl with | [_, _], _ => rfl)
abbrev sn_Lparts : List Str := ["_law_numbers_here", "_law_choose", "_law_rise", "_law_central", "_law_num", "_law_den", "_law_weight_here"]
theorem sc_Lparts : FnScope sn_Lparts ["_law_numbers_here"] (defScope s_Lparts) := ⟨rfl, rfl, rfl, by decide +kernel, rfl, by decide +kernel, by decide +kernel⟩
abbrev sp_Lparts (K : Frag) : Sp := SpG (ι := List Int) (fun l => l.length = 5) (fun l => [RL (l.map RI)]) (fun l => RPs (lParts l))
theorem us_Lparts {K : Frag} (i : List Int) (h : (fun l => l.length = 5) i) : ∀ vs H Q E, SpF ((fun l => [RL (l.map RI)]) i) ((fun l => RPs (lParts l)) i) vs H Q E → sp_Lparts K vs H Q E := fun _ _ _ _ q => ⟨i, h, q⟩
abbrev Fn_Lparts (P : Program) (w : World) (K : Frag) (mg : Str → Option Value) (base : Heap) : Prop := ∃ fd, DefF K "_law_parts" "_law_parts" s_Lparts [] [] (ga K "_law_parts") fd ∧ FnOk P w K mg base CX0 42 (ga K "_law_parts") fd ["_law_numbers_here"] (sp_Lparts K)
theorem fn_Lparts (N : En P K mg base) : Fn_Lparts P w K mg base := by
  have h_Lpow := ok_Lpow (w := w) N
  obtain ⟨T, S, ns, tr⟩ := N
  obtain ⟨fd, F⟩ := S.def_ 80
  refine ⟨fd, F, def_ok F sc_Lparts (fun _ => rfl) fun cdv A' outer s H E hr => ⟨_, (pss_cons (ps_set (i := 1) sc_Lparts.nd rfl (Or.inl rfl) pe_int)
      (pss_cons (ps_if (pt_cmpR op_eq (pe_op op_modN (pe_ix ix_list (pv 0) pe_int (fun _ _ => rfl)) pe_int) pe_int (nomark _)) (pss_one (ps_set (i := 1) sc_Lparts.nd rfl (Or.inl rfl) pe_int)) pss_nil)
      (pss_cons (ps_set (i := 2) sc_Lparts.nd rfl (Or.inl rfl) pe_int)
      (pss_cons (ps_set (i := 3) sc_Lparts.nd rfl (Or.inl rfl) pe_int)
      (pss_cons (ps_if (PW.pt (pw_and (pt_cmpR op_eq (pv 1) pe_int (nomark _)) (pw_and1 (pt_cmpR op_eq (pe_op op_modN (pe_op (op_fdivP (qu_of ns tr sc_Lparts) hr (by decide)) (pe_ix ix_list (pv 0) pe_int (fun _ _ => rfl)) pe_int) pe_int) pe_int (nomark _))))) (pss_one (ps_set (i := 2) sc_Lparts.nd rfl (Or.inl rfl) pe_int)) pss_nil)
      (pss_cons (ps_if (PW.pt (pw_and (pt_cmpR op_eq (pv 1) pe_int (nomark _)) (pw_and1 (pt_cmpR op_eq (pe_op op_modN (pe_op (op_fdivP (qu_of ns tr sc_Lparts) hr (by decide)) (pe_ix ix_list (pv 0) pe_int (fun _ _ => rfl)) pe_int) pe_int) pe_int (nomark _))))) (pss_one (ps_set (i := 3) sc_Lparts.nd rfl (Or.inl rfl) pe_int)) pss_nil)
      (pss_cons (ps_set (i := 4) sc_Lparts.nd rfl (Or.inl rfl) (pe_op op_sub (pe_op op_modN (pe_ix ix_list (pv 0) pe_int (fun _ _ => rfl)) pe_int) pe_int))
      (pss_cons (ps_set (i := 5) sc_Lparts.nd rfl (Or.inl rfl) (pe_op op_add (pe_op op_modN (pe_op (op_fdivP (qu_of ns tr sc_Lparts) hr (by decide)) (pe_ix ix_list (pv 0) pe_int (fun _ _ => rfl)) pe_int) pe_int) pe_int))
      (pss_cons (ps_if (pt_cmpR op_eq (pv 4) pe_int (nomark _)) (pss_one (ps_set (i := 4) sc_Lparts.nd rfl (Or.inl rfl) pe_int)) pss_nil)
      (pss_cons (ps_if (pt_cmpR op_eq (pe_op op_modN (pe_ix ix_list (pv 0) pe_int (fun _ _ => rfl)) pe_int) pe_int (nomark _)) (pss_cons (ps_set (i := 4) sc_Lparts.nd rfl (Or.inl rfl) (pe_callP h_Lpow hr (by decide) rfl T.g_Lpow (pa_cons (pe_un un_neg pe_int) (pa_cons (pv 1) pa_nil))))
      (pss_one (ps_set (i := 5) sc_Lparts.nd rfl (Or.inl rfl) (pe_callP h_Lpow hr (by decide) rfl T.g_Lpow (pa_cons pe_int (pa_cons (pv 3) pa_nil)))))) pss_nil)
      (pss_cons (ps_set (i := 6) sc_Lparts.nd rfl (Or.inl rfl) (pe_lst (pa_cons (pe_lst (pa_cons pe_int pa_nil)) pa_nil)))
      (pss_cons (ps_if (pt_cmpR op_eq (pe_op op_modN (pe_op (op_fdivP (qu_of ns tr sc_Lparts) hr (by decide)) (pe_ix ix_list (pv 0) pe_int (fun _ _ => rfl)) pe_int) pe_int) pe_int (nomark _)) (pss_cons (ps_set (i := 6) sc_Lparts.nd rfl (Or.inl rfl) (pe_lst (pa_cons (pe_lst (pa_cons (pe_op op_sub (pe_op op_modN (pe_ix ix_list (pv 0) pe_int (fun _ _ => rfl)) pe_int) pe_int) (pa_cons (pe_op op_sub (pe_op op_modN (pe_op (op_fdivP (qu_of ns tr sc_Lparts) hr (by decide)) (pe_ix ix_list (pv 0) pe_int (fun _ _ => rfl)) pe_int) pe_int) pe_int) pa_nil))) (pa_cons (pe_lst (pa_cons (pe_op op_sub (pe_op op_modN (pe_ix ix_list (pv 0) pe_int (fun _ _ => rfl)) pe_int) pe_int) (pa_cons (pe_op op_sub (pe_op op_modN (pe_op (op_fdivP (qu_of ns tr sc_Lparts) hr (by decide)) (pe_ix ix_list (pv 0) pe_int (fun _ _ => rfl)) pe_int) pe_int) pe_int) pa_nil))) pa_nil))))
      (pss_one (ps_if (pt_cmpR (op_eqD hr.units) (pv 6) (pe_lst (pa_cons (pe_lst (pa_cons pe_int (pa_cons pe_int pa_nil))) (pa_cons (pe_lst (pa_cons pe_int (pa_cons pe_int pa_nil))) pa_nil))) (nomark _)) (pss_one (ps_set (i := 6) sc_Lparts.nd rfl (Or.inl rfl) (pe_lst (pa_cons (pe_lst (pa_cons pe_int pa_nil)) (pa_cons (pe_lst (pa_cons pe_int pa_nil)) pa_nil))))) pss_nil))) pss_nil)
      (pss_one (ps_ret (pe_lst (pa_cons (pv 6) (pa_cons (pv 4) (pa_cons (pv 5) (pa_cons (pv 1) (pa_cons (pv 2) (pa_cons (pv 3) pa_nil))))))))))))))))))))), fun i hy F0 H0 Q q => ?_⟩⟩
  obtain ⟨l, rfl⟩ : ∃ zz, zz = i := ⟨i, rfl⟩
  replace hy : l.length = 5 := hy
  change SJ F0 H0 _ (ctx [RL (l.map RI)] _) _
  have g : ∀ n, n < 5 → (l.map RI)[n]? = some (RI (l.getD n 0)) := fun n hn => get_map 0 (by omega)
  have q' : RTn F0 H0 Q (RPs ⟨pWt (l.getD 2 0) (l.getD 3 0) (l.getD 4 0), pNum (l.getD 0 0) (l.getD 1 0) (l.getD 2 0), pDen (l.getD 0 0) (l.getD 1 0) (l.getD 2 0), pCh (l.getD 0 0), pRi (l.getD 0 0), pCe (l.getD 0 0)⟩) := q
  have hch : pCh (l.getD 0 0) ≤ 2 := by unfold pCh; split <;> omega
  have hce : pCe (l.getD 0 0) ≤ 1 := by unfold pCe; split <;> omega
  refine q_asg ev_c ?_
  -- choose
  refine q_ifV (i := 1) (R := RI (pCh (l.getD 0 0) : Int)) (et_eqI (ev_mod (ev_ixL (n := 0) (ev_var rfl) ev_c (g 0 (by decide))) ev_c (by decide)) ev_c) (fun hb => ⟨_, rfl, ev_i ev_c ?_⟩) (fun hb => ⟨_, rfl, congrArg RI ?_⟩) ?_
  · unfold pCh; rw [if_pos (of_decide_eq_true hb)]; rfl
  · unfold pCh; rw [if_neg (of_decide_eq_false hb)]; rfl
  refine q_asg ev_c (q_asg ev_c ?_)
  -- rise
  refine q_ifV (i := 2) (R := RI (pRi (l.getD 0 0) : Int)) (et_and (b := decide (((l.getD 0 0).fdiv 4).fmod 3 = 1)) (et_eqI (ev_var rfl) ev_c) fun _ => et_eqI (ev_mod (ev_fdv (ev_ixL (n := 0) (ev_var rfl) ev_c (g 0 (by decide))) ev_c (by decide)) ev_c (by decide)) ev_c) (fun hb => ⟨_, rfl, ev_i ev_c ?_⟩) (fun hb => ⟨_, rfl, congrArg RI ?_⟩) ?_
  · unfold pRi
    rw [Bool.and_eq_true, decide_eq_true_iff, decide_eq_true_iff] at hb
    rw [if_pos ⟨by omega, hb.2⟩]; rfl
  · unfold pRi
    rw [← Bool.not_eq_true, Bool.and_eq_true, decide_eq_true_iff, decide_eq_true_iff] at hb
    rw [if_neg fun z => hb ⟨by omega, z.2⟩]; rfl
  -- central
  refine q_ifV (i := 3) (R := RI (pCe (l.getD 0 0) : Int)) (et_and (b := decide (((l.getD 0 0).fdiv 4).fmod 3 = 2)) (et_eqI (ev_var rfl) ev_c) fun _ => et_eqI (ev_mod (ev_fdv (ev_ixL (n := 0) (ev_var rfl) ev_c (g 0 (by decide))) ev_c (by decide)) ev_c (by decide)) ev_c) (fun hb => ⟨_, rfl, ev_i ev_c ?_⟩) (fun hb => ⟨_, rfl, congrArg RI ?_⟩) ?_
  · unfold pCe
    rw [Bool.and_eq_true, decide_eq_true_iff, decide_eq_true_iff] at hb
    rw [if_pos ⟨by omega, hb.2⟩]; rfl
  · unfold pCe
    rw [← Bool.not_eq_true, Bool.and_eq_true, decide_eq_true_iff, decide_eq_true_iff] at hb
    rw [if_neg fun z => hb ⟨by omega, z.2⟩]; rfl
  refine q_asg (ev_sub (ev_mod (ev_ixL (n := 1) (ev_var rfl) ev_c (g 1 (by decide))) ev_c (by decide)) ev_c) ?_
  refine q_asg (ev_add (ev_mod (ev_fdv (ev_ixL (n := 1) (ev_var rfl) ev_c (g 1 (by decide))) ev_c (by decide)) ev_c (by decide)) ev_c) ?_
  refine q_ifV (i := 4) (R := RI (if (l.getD 1 0).fmod 9 - 4 = 0 then 1 else (l.getD 1 0).fmod 9 - 4)) (et_eqI (ev_var rfl) ev_c) (fun hb => ⟨_, rfl, ev_i ev_c ?_⟩) (fun hb => ⟨_, rfl, congrArg RI ?_⟩) ?_
  · rw [if_pos (of_decide_eq_true hb)]
  · rw [if_neg (of_decide_eq_false hb)]
  -- the base
  have base : ∀ tz, SJ F0 H0 { nx := fun _ H' => Q .non H', rt := Q } [.fz (RL (l.map RI)), .fz (RI (pCh (l.getD 0 0) : Int)), .fz (RI (pRi (l.getD 0 0) : Int)), .fz (RI (pCe (l.getD 0 0) : Int)), .fz (RI (pNum (l.getD 0 0) (l.getD 1 0) (l.getD 2 0))), .fz (RI (pDen (l.getD 0 0) (l.getD 1 0) (l.getD 2 0))), .any] tz → SJ F0 H0 { nx := fun _ H' => Q .non H', rt := Q } [.fz (RL (l.map RI)), .fz (RI (pCh (l.getD 0 0) : Int)), .fz (RI (pRi (l.getD 0 0) : Int)), .fz (RI (pCe (l.getD 0 0) : Int)), .fz (RI (if (l.getD 1 0).fmod 9 - 4 = 0 then 1 else (l.getD 1 0).fmod 9 - 4)), .fz (RI (((l.getD 1 0).fdiv 9).fmod 3 + 1)), .any] (tSeq (tIfS (tTest (tOp rEq (tOp (rI (fun _ j => j ≠ 0) fun i j => .int (i.fmod j)) (tOp (rIxL K) (tVar 0) (tC (.int 2))) (tC (.int 2))) (tC (.int 1)))) (tSeq (tAsg (tCall (sp_Lpow K) [] E0 (tCons (tUn (rU fun i => .int (-i)) (tC (.int 1))) (tCons (tVar 1) tNil))) (gName 4)) (tAsg (tCall (sp_Lpow K) [] E0 (tCons (tC (.int 4)) (tCons (tVar 3) tNil))) (gName 5))) tNext) tz) := fun tz hz => by
    refine q_if (et_eqI (ev_mod (ev_ixL (n := 2) (ev_var rfl) ev_c (g 2 (by decide))) ev_c (by decide)) ev_c) (fun hb => ?_) fun hb => ?_
    · have hb' := of_decide_eq_true hb
      refine q_asg (ev_call (ea2 (ev_neg ev_c) (ev_var rfl)) (us_Lpow (-1, pCh (l.getD 0 0)) ⟨show lg (-1) ≤ 2 by decide, by show pCh (l.getD 0 0) ≤ 10; omega⟩)) ?_
      refine sj_asg (ev_call (ea2 ev_c (ev_var rfl)) (us_Lpow (4, pCe (l.getD 0 0)) ⟨show lg 4 ≤ 2 by decide, by show pCe (l.getD 0 0) ≤ 10; omega⟩)) ?_
      unfold pNum pDen at hz
      rw [if_pos hb', if_pos hb'] at hz
      exact hz
    · have hb' := of_decide_eq_false hb
      refine sj_next ?_
      unfold pNum pDen at hz
      rw [if_neg hb', if_neg hb'] at hz
      exact hz
  refine base _ ?_
  refine q_asg (R := RLL [[1]]) (EO.ev (eo_lst (ea1 (EO.ev (eo_lst (ea1 ev_c) (by simp)))) (by simp))) ?_
  have rest : SJ F0 H0 { nx := fun _ H' => Q .non H', rt := Q } [.fz (RL (l.map RI)), .fz (RI (pCh (l.getD 0 0) : Int)), .fz (RI (pRi (l.getD 0 0) : Int)), .fz (RI (pCe (l.getD 0 0) : Int)), .fz (RI (pNum (l.getD 0 0) (l.getD 1 0) (l.getD 2 0))), .fz (RI (pDen (l.getD 0 0) (l.getD 1 0) (l.getD 2 0))), .fz (RLL (pWt (l.getD 2 0) (l.getD 3 0) (l.getD 4 0)))] (tRet (tLst (tCons (tVar 6) (tCons (tVar 4) (tCons (tVar 5) (tCons (tVar 1) (tCons (tVar 2) (tCons (tVar 3) tNil)))))))) := sj_ret (EO.ev (eo_lst (ea_cons (ev_var rfl) (ea_cons (ev_var rfl) (ea_cons (ev_var rfl) (ea_cons (ev_var rfl) (ea2 (ev_var rfl) (ev_var rfl)))))) (by simp))) q'
  refine q_if (et_eqI (ev_mod (ev_fdv (ev_ixL (n := 2) (ev_var rfl) ev_c (g 2 (by decide))) ev_c (by decide)) ev_c (by decide)) ev_c) (fun hb => ?_) fun hb => ?_
  · have hb' := of_decide_eq_true hb
    refine q_asg (R := RLL (pWt0 (l.getD 3 0) (l.getD 4 0))) (EO.ev (eo_lst2 (ea2 (EO.ev (eo_lst (ea2 (ev_sub (ev_mod (ev_ixL (n := 3) (ev_var rfl) ev_c (g 3 (by decide))) ev_c (by decide)) ev_c) (ev_sub (ev_mod (ev_fdv (ev_ixL (n := 3) (ev_var rfl) ev_c (g 3 (by decide))) ev_c (by decide)) ev_c (by decide)) ev_c)) (by simp))) (EO.ev (eo_lst (ea2 (ev_sub (ev_mod (ev_ixL (n := 4) (ev_var rfl) ev_c (g 4 (by decide))) ev_c (by decide)) ev_c) (ev_sub (ev_mod (ev_fdv (ev_ixL (n := 4) (ev_var rfl) ev_c (g 4 (by decide))) ev_c (by decide)) ev_c (by decide)) ev_c)) (by simp)))))) ?_
    refine sj_if (et_test (ev_eqLL (u := [[0, 0], [0, 0]]) (ev_var rfl) (EO.ev (eo_lst (ea2 (EO.ev (eo_lst (ea2 ev_c ev_c) (by simp))) (EO.ev (eo_lst (ea2 ev_c ev_c) (by simp)))) (by simp))))) (fun h2 => ?_) fun h2 => ?_
    · have h2' := of_decide_eq_true h2
      refine sj_asg (R := RLL [[0], [1]]) (EO.ev (eo_lst (ea2 (EO.ev (eo_lst (ea1 ev_c) (by simp))) (EO.ev (eo_lst (ea1 ev_c) (by simp)))) (by simp))) ?_
      unfold pWt at rest
      rw [if_pos hb', if_pos h2'] at rest
      exact rest
    · have h2' := of_decide_eq_false h2
      refine sj_next ?_
      unfold pWt at rest
      rw [if_pos hb', if_neg h2'] at rest
      exact rest
  · have hb' := of_decide_eq_false hb
    refine sj_next ?_
    unfold pWt at rest
    rw [if_neg hb'] at rest
    exact rest
abbrev Pr_Lparts (P : Program) (w : World) (K : Frag) (mg : Str → Option Value) (base : Heap) : Prop := Pr P w K mg base 42 (ga K "_law_parts") ["_law_numbers_here"] [] (sp_Lparts K)
theorem ok_Lparts (N : En P K mg base) : Pr_Lparts P w K mg base := by
  obtain ⟨fd, F, h⟩ := fn_Lparts (w := w) N
  exact pr_mk F h (F.bindsN fun _ _ _ _ _ _ us hl => match us, hl with | [_], _ => rfl)
abbrev sn_Lmade : List Str := ["_law_parts_here", "_law_weight_here", "_law_row"]
theorem sc_Lmade : FnScope sn_Lmade ["_law_parts_here"] (defScope s_Lmade) := ⟨rfl, rfl, rfl, by decide +kernel, rfl, by decide +kernel, by decide +kernel⟩
abbrev sp_Lmade (K : Frag) : Sp := SpG (ι := Parts) (fun p => MadeOk p) (fun p => [RPs p]) (fun p => RBs K (lMade p))
theorem us_Lmade {K : Frag} (i : Parts) (h : (fun p => MadeOk p) i) : ∀ vs H Q E, SpF ((fun p => [RPs p]) i) ((fun p => RBs K (lMade p)) i) vs H Q E → sp_Lmade K vs H Q E := fun _ _ _ _ q => ⟨i, h, q⟩
abbrev Fn_Lmade (P : Program) (w : World) (K : Frag) (mg : Str → Option Value) (base : Heap) : Prop := ∃ fd, DefF K "_law_made" "_law_made" s_Lmade [] [] (ga K "_law_made") fd ∧ FnOk P w K mg base CX0 45 (ga K "_law_made") fd ["_law_parts_here"] (sp_Lmade K)
theorem fn_Lmade (N : En P K mg base) : Fn_Lmade P w K mg base := by
  have h_Qi := ok_Qi (w := w) N
  have h_Pi := ok_Pi (w := w) N
  have h_Pi1 := ok_Pi1 (w := w) N
  have h_Bi := ok_Bi (w := w) N
  have h_Fi := ok_Fi (w := w) N
  obtain ⟨T, S, ns, tr⟩ := N
  obtain ⟨fd, F⟩ := S.def_ 81
  refine ⟨fd, F, def_ok F sc_Lmade (fun _ => rfl) fun cdv A' outer s H E hr => ⟨_, (pss_cons (ps_set (i := 1) sc_Lmade.nd rfl (Or.inl rfl) (pe_makeP h_Qi hr (by decide) T.mk_Q rfl T.g_Q (pa_cons (pe_lc (own := [("_law_row", 2)]) (g := gName 2) (by rfl) sc_Lmade.nd (pi_list (pe_ix (ix_listK K rfl) (pv 0) pe_int (fun _ _ => rfl))) (blkOk_by (own := [("_law_row", 2)]) (N := sn_Lmade) (sc := defScope s_Lmade) (by decide +kernel)) (fun _ _ _ _ _ => (pg_name (i := 2) sc_Lmade.nd rfl (by first | exact Or.inl rfl | exact Or.inr rfl))) (fun _ _ _ _ _ => pts_nil) (fun _ _ _ _ _ => (pe_makeP h_Pi1 hr (by decide) T.mk_P rfl T.g_P (pa_cons (pv 2) pa_nil)))) pa_nil)))
      (pss_one (ps_ret (pe_makeKw h_Bi hr (by decide) T.mk_B rfl T.g_B (pa_cons (pv 1) (pa_cons (pe_makeP h_Fi hr (by decide) T.mk_F rfl T.g_F (pa_cons (pe_ix ix_list (pv 0) pe_int (fun _ _ => rfl)) (pa_cons (pe_ix ix_list (pv 0) pe_int (fun _ _ => rfl)) pa_nil))) pa_nil)) (pk_cons (pe_ix ix_list (pv 0) pe_int (fun _ _ => rfl)) (pk_cons (pe_ix ix_list (pv 0) pe_int (fun _ _ => rfl)) (pk_cons (pe_ix ix_list (pv 0) pe_int (fun _ _ => rfl)) pk_nil))))))), fun i hy F0 H0 Q q => ?_⟩⟩
  obtain ⟨p, rfl⟩ : ∃ zz, zz = i := ⟨i, rfl⟩
  replace hy : MadeOk p := hy
  change SJ F0 H0 _ (ctx [RPs p] _) _
  obtain ⟨hd, hn, hw, hc, hwl, hrl⟩ := hy
  refine q_asg (ev_make (ea1 (EO.ev (eo_lcL (Rs := (p.wt.map fun r => mkP r 1).map (RP K)) (ev_ixL (n := 0) (R := RLL p.wt) (ev_var rfl) ev_c rfl) (by rw [List.length_map, List.length_map, List.length_map]) (by rw [List.length_map, List.length_map]; omega) (fun T hT => cond_mov rfl rfl hT) fun n S R hS hR => ?_))) (us_Qi (p.wt.map fun r => mkP r 1) (by rw [List.length_map]; omega))) ?_
  · obtain ⟨hn2, rfl⟩ := map_get (f := fun r : List Int => RL (r.map RI)) [] hS
    rw [List.map_map] at hR
    obtain ⟨_, rfl⟩ := map_get (f := RP K ∘ fun r : List Int => mkP r 1) [] hR
    exact ev_make (ea1 (ev_var rfl)) (us_Pi (false, p.wt.getD n [], 1) ⟨one_ne, Nat.le_trans (hrl _ (getD_memL (d := []) hn2)) (by decide)⟩)
  exact sj_ret (ev_makeN (As := [RQ K (lMade p).w, RF K (lMade p).b]) (Bs := [RI (p.ch : Int), RI (p.ri : Int), RI (p.ce : Int)]) (ea2 (ev_var rfl) (ev_make (ea2 (ev_ixL (n := 1) (ev_var rfl) ev_c rfl) (ev_ixL (n := 2) (ev_var rfl) ev_c rfl)) (us_Fi (p.num, p.den) hd))) (ea_cons (ev_ixL (n := 3) (ev_var rfl) ev_c rfl) (ea2 (ev_ixL (n := 4) (ev_var rfl) ev_c rfl) (ev_ixL (n := 5) (ev_var rfl) ev_c rfl))) rfl rfl (us_Bi (lMade p) ⟨hw, hn, hc⟩)) q
abbrev Pr_Lmade (P : Program) (w : World) (K : Frag) (mg : Str → Option Value) (base : Heap) : Prop := Pr P w K mg base 45 (ga K "_law_made") ["_law_parts_here"] [] (sp_Lmade K)
theorem ok_Lmade (N : En P K mg base) : Pr_Lmade P w K mg base := by
  obtain ⟨fd, F, h⟩ := fn_Lmade (w := w) N
  exact pr_mk F h (F.bindsN fun _ _ _ _ _ _ us hl => match us, hl with | [_], _ => rfl)
/-- what the law asks of a sum -/
def LawOk (s : Bsum) : Prop := ∃ (k : Nat) (pas : Nat → PA), LeastOk s k pas ∧ (∀ J, J ≤ k → AccOk s (certOf s J (pas J))) ∧ ∀ J, k ≤ J → J < min (k + 2) 3 → ∃ pa, RecOk s J pa ∧ isRec (certOf s J pa) = true ∧ AccOk s (certOf s J pa)
theorem ev_cert1 {Γ : List Ty} {ta tb : TE} {c : Cert} (h : EV Γ ta (RCert K c)) (hb : EV Γ tb (RI ((1 : Nat) : Int))) : EV Γ (tOp (rIxT K) ta tb) (RI (certJ c : Int)) := by
  cases c with
  | no J N m => exact ev_ixT (n := 1) (Rs := [RK (.str "none"), RI (J : Int), RI (N : Int), RT (m.map fun r : List Fr => RT (r.map (RF K)))]) h hb rfl
  | tel J op m => exact ev_ixT (n := 1) (Rs := [RK (.str "recurrence"), RI (J : Int), RO K op, RQ K m]) h hb rfl
theorem ev_cert0E {Γ : List Ty} {ta tb : TE} {c : Cert} (h : EV Γ ta (RCert K c)) (hb : EV Γ tb (RI ((0 : Nat) : Int))) : EV Γ (tOp rEq (tOp (rIxT K) ta tb) (tC (.str "recurrence"))) (RB (isRec c)) := by
  refine ev_b (ev_eq (ev_cert0 h hb) ev_c rfl) ?_
  cases isRec c <;> decide
abbrev sn_law : List Str := ["_law_script", "_law_numbers_here", "_law_parts_here", "_law_made_here", "_law_found", "_law_least", "_law_order", "_law_certificate"]
theorem sc_law : FnScope sn_law ["_law_script"] (defScope s_law) := ⟨rfl, rfl, rfl, by decide +kernel, rfl, by decide +kernel, by decide +kernel⟩
abbrev sp_law (K : Frag) : Sp := SpG (ι := List Int) (fun sc => (∀ z ∈ sc, lg z ≤ 2000000) ∧ MadeOk (lParts (lNums sc 5)) ∧ LawOk (lMade (lParts (lNums sc 5)))) (fun sc => [RSc K sc]) (fun _ => RB true)
theorem us_law {K : Frag} (i : List Int) (h : (fun sc => (∀ z ∈ sc, lg z ≤ 2000000) ∧ MadeOk (lParts (lNums sc 5)) ∧ LawOk (lMade (lParts (lNums sc 5)))) i) : ∀ vs H Q E, SpF ((fun sc => [RSc K sc]) i) ((fun _ => RB true) i) vs H Q E → sp_law K vs H Q E := fun _ _ _ _ q => ⟨i, h, q⟩
abbrev Fn_law (P : Program) (w : World) (K : Frag) (mg : Str → Option Value) (base : Heap) : Prop := ∃ fd, DefF K "law" "law" s_law [] [] (ga K "law") fd ∧ FnOk P w K mg base CX0 53 (ga K "law") fd ["_law_script"] (sp_law K)
theorem fn_law (N : En P K mg base) : Fn_law P w K mg base := by
  have h_Lnum := ok_Lnum (w := w) N
  have h_Lparts := ok_Lparts (w := w) N
  have h_Lmade := ok_Lmade (w := w) N
  have h_lrec := ok_lrec (w := w) N
  have h_accepts := ok_accepts (w := w) N
  have h_recur := ok_recur (w := w) N
  obtain ⟨T, S, ns, tr⟩ := N
  obtain ⟨fd, F⟩ := S.def_ 82
  refine ⟨fd, F, def_ok F sc_law (fun _ => rfl) fun cdv A' outer s H E hr => ⟨_, (pss_cons (ps_set (i := 1) sc_law.nd rfl (Or.inl rfl) (pe_callP h_Lnum hr (by decide) rfl T.g_Lnum (pa_cons (pv 0) (pa_cons pe_int pa_nil))))
      (pss_cons (ps_set (i := 2) sc_law.nd rfl (Or.inl rfl) (pe_callP h_Lparts hr (by decide) rfl T.g_Lparts (pa_cons (pv 1) pa_nil)))
      (pss_cons (ps_set (i := 3) sc_law.nd rfl (Or.inl rfl) (pe_callP h_Lmade hr (by decide) rfl T.g_Lmade (pa_cons (pv 2) pa_nil)))
      (pss_cons (ps_set (i := 4) sc_law.nd rfl (Or.inl rfl) (pe_callP h_lrec hr (by decide) rfl T.g_lrec (pa_cons (pv 3) pa_nil)))
      (pss_cons (ps_set (i := 5) sc_law.nd rfl (Or.inl rfl) (pe_op op_sub (pe_callB call_len_seq (by rfl) T.n_len PySem.boot_len (pa_cons (pv 4) pa_nil)) pe_int))
      (pss_cons (ps_if (PW.pt (pw_or (pt_cmpR op_lt (pv 5) pe_int (nomark _)) (pw_or1 (pt_cmpR op_gt (pv 5) (pe_op op_add (pe_op op_add (pe_ix ix_list (pv 2) pe_int (fun _ _ => rfl)) (pe_ix ix_list (pv 2) pe_int (fun _ _ => rfl))) (pe_ix ix_list (pv 2) pe_int (fun _ _ => rfl))) (nomark _))))) (pss_one (ps_ret pe_bl)) pss_nil)
      (pss_cons (ps_for PassesOwn.never rfl (pi_range1 rfl T.n_range (pa_cons (pe_callB call_len_seq (by rfl) T.n_len PySem.boot_len (pa_cons (pv 4) pa_nil)) pa_nil)) (pg_name (i := 6) sc_law.nd rfl (Or.inl rfl)) (pss_cons (ps_if (PW.pt (pw_or (pt_cmpR op_notBl (pe_callP h_accepts hr (by decide) rfl T.g_accepts (pa_cons (pv 3) (pa_cons (pe_ix ix_list (pv 4) (pv 6) (fun _ _ => rfl)) pa_nil))) pe_bl (nomark _)) (pw_or1 (pt_cmpR op_ne (pe_ix ix_tup (pe_ix ix_list (pv 4) (pv 6) (fun _ _ => rfl)) pe_int (fun _ _ => rfl)) (pv 6) (nomark _))))) (pss_one (ps_ret pe_bl)) pss_nil)
      (pss_one (ps_if (pt_cmpR op_ne (pe_cmpR op_eq (pe_ix ix_tup (pe_ix ix_list (pv 4) (pv 6) (fun _ _ => rfl)) pe_int (fun _ _ => rfl)) pe_str (nomark _)) (pe_cmpR op_eq (pv 6) (pv 5) (nomark _)) (nomark _)) (pss_one (ps_ret pe_bl)) pss_nil))))
      (pss_cons (ps_for PassesOwn.never rfl (pi_range2 (by rfl) T.n_range (pa_cons (pv 5) (pa_cons (pe_callB (cr_min2 rfl) (by rfl) T.n_min bt_min (pa_cons (pe_op op_add (pv 5) pe_int) (pa_cons pe_int pa_nil))) pa_nil))) (pg_name (i := 6) sc_law.nd rfl (Or.inl rfl)) (pss_cons (ps_set (i := 7) sc_law.nd rfl (Or.inl rfl) (pe_callKw h_recur hr (by decide) rfl T.g_recur (pa_cons (pv 3) pa_nil) (pk_cons (pv 6) pk_nil)))
      (pss_one (ps_if (PW.pt (pw_or (pt_cmpR op_ne (pe_ix ix_tup (pv 7) pe_int (fun _ _ => rfl)) pe_str (nomark _)) (pw_or1 (pt_cmpR op_notBl (pe_callP h_accepts hr (by decide) rfl T.g_accepts (pa_cons (pv 3) (pa_cons (pv 7) pa_nil))) pe_bl (nomark _))))) (pss_one (ps_ret pe_bl)) pss_nil))))
      (pss_one (ps_ret pe_bl)))))))))), fun i hy F0 H0 Q q => ?_⟩⟩
  obtain ⟨sc, rfl⟩ : ∃ zz, zz = i := ⟨i, rfl⟩
  replace hy : (∀ z ∈ sc, lg z ≤ 2000000) ∧ MadeOk (lParts (lNums sc 5)) ∧ LawOk (lMade (lParts (lNums sc 5))) := hy
  change SJ F0 H0 _ (ctx [RSc K sc] _) _
  obtain ⟨hz, hm, k, pas, hl, ha, hn⟩ := hy
  have hkf := hl.kf
  have hfs : facs (lMade (lParts (lNums sc 5))) ≤ 2 := (hl.ok 0 (Nat.zero_le _)).b.fs
  have hfl : ((List.range (k + 1)).map fun J => RCert K (certOf (lMade (lParts (lNums sc 5))) J (pas J))).length = k + 1 := by rw [List.length_map, List.length_range]
  have hget : ∀ J, J ≤ k → ((List.range (k + 1)).map fun J => RCert K (certOf (lMade (lParts (lNums sc 5))) J (pas J)))[J]? = some (RCert K (certOf (lMade (lParts (lNums sc 5))) J (pas J))) := fun J hJ => by
    rw [List.getElem?_map, List.getElem?_range (by omega)]
    rfl
  have hrec : ∀ J, J ≤ k → isRec (certOf (lMade (lParts (lNums sc 5))) J (pas J)) = decide (J = k) := fun J hJ => by
    by_cases e : J = k
    · rw [decide_eq_true e, e]; exact hl.yes
    · rw [decide_eq_false e]; exact hl.no J (by omega)
  refine q_asg (R := RL ((lNums sc 5).map RI)) (ev_call (ea2 (ev_var rfl) ev_c) (us_Lnum (sc, 5) ⟨hz, show 5 ≤ 1000 by decide⟩)) ?_
  refine q_asg (R := RPs (lParts (lNums sc 5))) (ev_call (ea1 (ev_var rfl)) (us_Lparts (lNums sc 5) (lNsN_len sc 5))) ?_
  refine q_asg (R := RBs K (lMade (lParts (lNums sc 5)))) (ev_call (ea1 (ev_var rfl)) (us_Lmade (lParts (lNums sc 5)) hm)) ?_
  refine q_asg (R := RL ((List.range (k + 1)).map fun J => RCert K (certOf (lMade (lParts (lNums sc 5))) J (pas J)))) (ev_call (ea1 (ev_var rfl)) (us_lrec (lMade (lParts (lNums sc 5)), k, pas) hl)) ?_
  refine q_asg (ev_i (j := (k : Int)) (ev_sub (ev_lenL (ev_var rfl)) ev_c) (by rw [hfl]; omega)) ?_
  refine q_skip (et_is (et_or (a := false) (b := false) (et_is (et_I (ev_var rfl) ev_c) (decide_eq_false (by omega))) fun _ => et_is (et_I (ev_var rfl) (ev_add (ev_add (ev_ixL (n := 3) (ev_var rfl) ev_c rfl) (ev_ixL (n := 4) (ev_var rfl) ev_c rfl)) (ev_ixL (n := 5) (ev_var rfl) ev_c rfl))) (decide_eq_false ?_)) rfl) ?_
  · have e : facs (lMade (lParts (lNums sc 5))) = (lParts (lNums sc 5)).ch + (lParts (lNums sc 5)).ri + (lParts (lNums sc 5)).ce := rfl
    omega
  refine q_for1 (n := ((k + 1 : Nat) : Int)) (ea1 (ev_i (ev_lenL (ev_var rfl)) (by rw [hfl]))) (by omega) (by omega) (fun _ => [.fz (RSc K sc), .fz (RL ((lNums sc 5).map RI)), .fz (RPs (lParts (lNums sc 5))), .fz (RBs K (lMade (lParts (lNums sc 5)))), .fz (RL ((List.range (k + 1)).map fun J => RCert K (certOf (lMade (lParts (lNums sc 5))) J (pas J)))), .fz (RI (k : Int)), .any, .any]) ⟨.inr rfl, .inr rfl, .inr rfl, .inr rfl, .inr rfl, .inr rfl, .inl rfl, .inl rfl, trivial⟩ (fun J hJ => ?_) ?_
  · have hJ' : J ≤ k := by omega
    refine q_skip (et_is (et_or (a := false) (b := false) (et_is (et_test (ev_isNot (ev_call (ea2 (ev_var rfl) (ev_ixL (n := J) (ev_var rfl) (ev_var rfl) (hget J hJ'))) (us_accepts (lMade (lParts (lNums sc 5)), _) (ha J hJ'))) ev_c)) (by decide)) fun _ => et_is (et_neI (ev_cert1 (ev_ixL (n := J) (ev_var rfl) (ev_var rfl) (hget J hJ')) ev_c) (ev_var rfl)) (by rw [certJ_of, decide_eq_true rfl]; rfl)) rfl) ?_
    refine sj_if (b := false) (et_is (et_test (ev_ne (ev_cert0E (ev_ixL (n := J) (ev_var rfl) (ev_var rfl) (hget J hJ')) ev_c) (ev_eqI (ev_var rfl) (ev_var rfl)) rfl)) ?_) (fun h => by cases h) fun _ => sj_next (nx_sub ⟨.inr rfl, .inr rfl, .inr rfl, .inr rfl, .inr rfl, .inr rfl, .inl rfl, .inl rfl, trivial⟩)
    rw [hrec J hJ', show decide ((J : Int) = (k : Int)) = decide (J = k) from by rw [Bool.eq_iff_iff, decide_eq_true_iff, decide_eq_true_iff]; omega, decide_eq_true rfl]
    rfl
  refine q_for2 (lo := (k : Int)) (n := ((min (k + 2) 3 : Nat) : Int)) (ea2 (ev_var rfl) (ev_i (ev_min2 (ev_add (ev_var rfl) ev_c) ev_c) (by omega))) (by omega) (fun _ => [.fz (RSc K sc), .fz (RL ((lNums sc 5).map RI)), .fz (RPs (lParts (lNums sc 5))), .fz (RBs K (lMade (lParts (lNums sc 5)))), .fz (RL ((List.range (k + 1)).map fun J => RCert K (certOf (lMade (lParts (lNums sc 5))) J (pas J)))), .fz (RI (k : Int)), .any, .any]) ⟨.inr rfl, .inr rfl, .inr rfl, .inr rfl, .inr rfl, .inr rfl, .inl rfl, .inl rfl, trivial⟩ (fun i hi => ?_) ?_
  · obtain ⟨pa, h1, h2, h3⟩ := hn (k + i) (by omega) (by omega)
    rw [show ((k : Int) + (i : Int)) = ((k + i : Nat) : Int) by omega]
    refine q_asg (R := RCert K (certOf (lMade (lParts (lNums sc 5))) (k + i) pa)) (ev_callN (Bs := [RI ((k + i : Nat) : Int)]) (ea1 (ev_var rfl)) (ea1 (ev_var rfl)) rfl rfl (us_recur (lMade (lParts (lNums sc 5)), k + i, pa) h1)) ?_
    refine sj_if (b := false) (et_is (et_or (a := false) (b := false) (et_is (et_test (ev_ne (ev_cert0 (ev_var rfl) ev_c) ev_c rfl)) (by rw [h2]; decide)) fun _ => et_is (et_test (ev_isNot (ev_call (ea2 (ev_var rfl) (ev_var rfl)) (us_accepts (lMade (lParts (lNums sc 5)), _) h3)) ev_c)) (by decide)) rfl) (fun h => by cases h) fun _ => sj_next (nx_sub ⟨.inr rfl, .inr rfl, .inr rfl, .inr rfl, .inr rfl, .inr rfl, .inl rfl, .inl rfl, trivial⟩)
  exact sj_ret ev_c q
abbrev Pr_law (P : Program) (w : World) (K : Frag) (mg : Str → Option Value) (base : Heap) : Prop := Pr P w K mg base 53 (ga K "law") ["_law_script"] [] (sp_law K)
theorem ok_law (N : En P K mg base) : Pr_law P w K mg base := by
  obtain ⟨fd, F, h⟩ := fn_law (w := w) N
  exact pr_mk F h (F.bindsN fun _ _ _ _ _ _ us hl => match us, hl with | [_], _ => rfl)
end
end G
end
section
set_option maxRecDepth 100000
set_option maxHeartbeats 4000000
/-! The row, from what the law asks of each sum. -/
namespace G
open PySem PySem.Spec PyProof.Rows L2 He
theorem fd_same {K : Frag} {x qual x' qual' : Str} {st st' : Stmt} {d d' : List V} {k k' : List (Str × V)} {f : Addr} {fd fd' : FuncData} (F : DefF K x qual st d k f fd) (F' : DefF K x' qual' st' d' k' f fd') : fd = fd' := by
  obtain ⟨oc, od, dV, kV, doc, pm, an, cdv, ct, osl, e, lk, _⟩ := F.ex
  obtain ⟨oc', od', dV', kV', doc', pm', an', cdv', ct', osl', e', lk', _⟩ := F'.ex
  rw [lk] at lk'
  cases lk'
  rfl
theorem bits_lg {z : Int} (h : Builtin.Int.intBits z ≤ 1048576) : lg z ≤ 2000000 := by
  unfold Builtin.Int.intBits at h
  unfold lg
  split at h
  · rename_i h0
    have : z = 0 := by simpa using h0
    subst this
    decide
  · omega
theorem law_at {w : World} {K : Frag} {mg : Str → Option Value} {h : Heap} (hm : ∀ l : List Int, MadeOk (lParts l)) (hl : ∀ l : List Int, LawOk (lMade (lParts l))) (KX : K.In h) (N : h.Ns mainGlobals mg) (c : SaysX fa fn K) (ns : h.NoSeer) :
    ∃ fd : FuncData, (∀ (s : Shared) (v : Value), BindsTo s fd ⟨[v], []⟩ [("_law_script", v)]) ∧
      (∀ (H : Hp) (a : Addr) (zs : List Int), (∀ z ∈ zs, Builtin.Int.intBits z ≤ 1048576) → SqL K H a (zs.map V.int) → sp_law K [.ref a] H (fun v _ => v = .bl true) fun _ _ _ => False) ∧
      ∀ base : Heap, K.In base → base.Ns mainGlobals mg → FnOk rowW.prog w K mg base CX0 53 (ga K "law") fd ["_law_script"] (sp_law K) := by
  obtain ⟨fd, F⟩ := c.def_ 82
  have T := tx_of KX N c
  have b := FunD.bindsA (ps := ["_law_script"]) F fun _ _ _ _ _ _ us hl => match us, hl with | [_], _ => rfl
  refine ⟨fd, fun s v => b s [v] rfl, fun H a zs hz hS => ?_, fun base hb hn => ?_⟩
  · exact ⟨zs, ⟨fun z hz' => bits_lg (hz z hz'), hm _, hl _⟩, H, Ex.refl H, ⟨⟨a, rfl, hS⟩, trivial⟩, fun v F2 H2 _ r => r⟩
  · have En : En rowW.prog K mg base := ⟨T, c, seer_base KX hb N T.k_cStatics T.k_sysModules T.k_builtinsNs T.k_mainGlobals T.k_bm ns, by rfl⟩
    obtain ⟨fd', F', ok⟩ := fn_law (w := w) En
    rw [fd_same F F']
    exact ok
end G
open PySem PySem.W PySem.Calls PyProof.Rows
theorem G.holds_of (hm : ∀ l : List Int, G.MadeOk (G.lParts l)) (hl : ∀ l : List Int, G.LawOk (G.lMade (G.lParts l))) : PySem.Challenge.rw_certsums_k89_whole_sums_decided.Holds := by
  w_on; o_law
  refine HandSHeadRun.head_imp (r := G.rowW) (q := view G.rowW.prog [0, 78]) (H := G.hkW) (ob := G.obW) (M := 9000) (loose := G.loose) (d := HandSHeadRun.topDef G.rowW.prog 78) (kwd := []) G.obW_eq G.runW
    (by kernel_rfl) (by kernel_rfl) (by kernel_rfl) (by rfl) (by first | assumption | decide +kernel) (by decide +kernel) ⟨rfl, rfl, rfl, rfl, rfl, by decide +kernel⟩ ?hw ?hc
  case hw => w_witness2
  case hc =>
    refine Att.attach_callB (l := PySem.Challenge.rw_certsums_k89_whole_sums_decided) (n := 63) rfl (by kernel_rfl) fun w t0 t1 mg mb g1 ob1 g2 g3 g4 a vs zs G0 Y g5 g6 g7 hnm g8 g9 hlen hbits hgen => ?_
    obtain ⟨K, KX, c⟩ := Y
    have hnm2 : mg ("law" : PySem.Str) = some (.ref g1) := by
      have e : (HandSHeadRun.topDef G.rowW.prog 78).name = ("law" : PySem.Str) := by kernel_rfl
      rw [← e]
      exact hnm
    have T := G.tx_of KX G0.T.g c
    have e1 := hnm2.symm.trans T.g_law
    cases e1
    obtain ⟨fd, hb, hs, hf⟩ := G.law_at (w := w) hm hl KX G0.T.g c (G0.T.seer (by decide +kernel))
    exact L2.law_call (k := 53) (x := "_law_script") KX G0.T.g G0.T.b G0.T.builtins G0.T.nolimit hgen g8 g9 (Nat.le_trans hlen (by decide)) ⟨rfl, by decide, by decide⟩ hf hb (fun H _ hS => hs H a zs hbits hS) fun _ _ _ z => z
end
section
/-! Determinants over the integers: Laplace along the last row; Cramer; the bordered one. -/
namespace G
def sumN : Nat → (Nat → Int) → Int
  | 0, _ => 0
  | n + 1, f => sumN n f + f n
theorem sumN_congr {f g : Nat → Int} : ∀ {n : Nat}, (∀ i, i < n → f i = g i) → sumN n f = sumN n g
  | 0, _ => rfl
  | n + 1, h => by
    show sumN n f + f n = sumN n g + g n
    rw [sumN_congr (n := n) fun i hi => h i (by omega), h n (by omega)]
theorem sumN_add (f g : Nat → Int) : ∀ n, sumN n (fun i => f i + g i) = sumN n f + sumN n g
  | 0 => rfl
  | n + 1 => by
    show sumN n _ + (f n + g n) = sumN n f + f n + (sumN n g + g n)
    rw [sumN_add f g n]; omega
theorem sumN_mul (c : Int) (f : Nat → Int) : ∀ n, sumN n (fun i => c * f i) = c * sumN n f
  | 0 => (Int.mul_zero c).symm
  | n + 1 => by
    show sumN n _ + c * f n = c * (sumN n f + f n)
    rw [sumN_mul c f n, Int.mul_add]
theorem sumN_zero {f : Nat → Int} {n : Nat} (h : ∀ i, i < n → f i = 0) : sumN n f = 0 := by
  induction n with
  | zero => rfl
  | succ n ih =>
    show sumN n f + f n = 0
    rw [ih fun i hi => h i (by omega), h n (by omega)]; rfl
theorem sumN_one {f : Nat → Int} {n a : Nat} (ha : a < n) (h : ∀ i, i < n → i ≠ a → f i = 0) : sumN n f = f a := by
  induction n with
  | zero => omega
  | succ n ih =>
    show sumN n f + f n = f a
    by_cases e : a = n
    · subst e
      rw [sumN_zero fun i hi => h i (by omega) (by omega)]; omega
    · rw [ih (by omega) fun i hi hia => h i (by omega) hia, h n (by omega) (by omega)]; omega
theorem sumN_two {f : Nat → Int} {n a : Nat} (ha : a + 1 < n) (h : ∀ i, i < n → i ≠ a → i ≠ a + 1 → f i = 0) : sumN n f = f a + f (a + 1) := by
  induction n with
  | zero => omega
  | succ n ih =>
    show sumN n f + f n = _
    by_cases e : a + 1 = n
    · subst e
      rw [sumN_one (a := a) (by omega) fun i hi hia => h i (by omega) hia (by omega)]
    · rw [ih (by omega) fun i hi h1 h2 => h i (by omega) h1 h2, h n (by omega) (by omega) (by omega)]; omega
def sg (n : Nat) : Int := if n % 2 = 0 then 1 else -1
theorem sg_succ (n : Nat) : sg (n + 1) = -sg n := by
  unfold sg
  split <;> split <;> omega
def skip (j k : Nat) : Nat := if k < j then k else k + 1
abbrev Mt := Nat → Nat → Int
def minor (M : Mt) (j : Nat) : Mt := fun i k => M i (skip j k)
def det : Nat → Mt → Int
  | 0, _ => 1
  | r + 1, M => sumN (r + 1) fun j => sg (r + j) * M r j * det r (minor M j)
def colset (M : Mt) (a : Nat) (b : Nat → Int) : Mt := fun i c => if c = a then b i else M i c
theorem skip_lt {j k r : Nat} (hj : j < r + 1) (hk : k < r) : skip j k < r + 1 := by
  unfold skip; split <;> omega
theorem det_congr : ∀ {r : Nat} {M M' : Mt}, (∀ i j, i < r → j < r → M i j = M' i j) → det r M = det r M'
  | 0, _, _, _ => rfl
  | r + 1, M, M', h => sumN_congr fun j hj => by
    rw [h r j (by omega) hj]
    congr 1
    exact det_congr fun i k hi hk => h i _ (by omega) (skip_lt hj hk)
/-- a column that the minor leaves out -/
theorem minor_colset_same (M : Mt) (a : Nat) (b : Nat → Int) : minor (colset M a b) a = minor M a := by
  funext i k
  unfold minor colset skip
  split
  · rw [if_neg (by omega)]
  · rw [if_neg (by omega)]
theorem minor_colset_lt (M : Mt) {a j : Nat} (b : Nat → Int) (h : a < j) : minor (colset M a b) j = colset (minor M j) a b := by
  funext i k
  show (if skip j k = a then b i else M i (skip j k)) = if k = a then b i else M i (skip j k)
  have e : skip j k = a ↔ k = a := by unfold skip; split <;> omega
  by_cases hk : k = a
  · rw [if_pos hk, if_pos (e.mpr hk)]
  · rw [if_neg hk, if_neg fun z => hk (e.mp z)]
theorem minor_colset_gt (M : Mt) {a j : Nat} (b : Nat → Int) (h : j < a + 1) : minor (colset M (a + 1) b) j = colset (minor M j) a b := by
  funext i k
  show (if skip j k = a + 1 then b i else M i (skip j k)) = if k = a then b i else M i (skip j k)
  have e : skip j k = a + 1 ↔ k = a := by unfold skip; split <;> omega
  by_cases hk : k = a
  · rw [if_pos hk, if_pos (e.mpr hk)]
  · rw [if_neg hk, if_neg fun z => hk (e.mp z)]
theorem det_lin (u v : Int) (x y : Nat → Int) : ∀ (r a : Nat) (M : Mt), a < r → det r (colset M a fun i => u * x i + v * y i) = u * det r (colset M a x) + v * det r (colset M a y)
  | 0, a, M, h => by omega
  | r + 1, a, M, h => by
    show sumN (r + 1) _ = u * sumN (r + 1) _ + v * sumN (r + 1) _
    rw [← sumN_mul, ← sumN_mul, ← sumN_add]
    refine sumN_congr fun j hj => ?_
    rcases Nat.lt_trichotomy a j with hlt | heq | hgt
    · rw [minor_colset_lt M _ hlt, minor_colset_lt M _ hlt, minor_colset_lt M _ hlt, det_lin u v x y r a _ (by omega)]
      have e : ∀ b, colset M a b r j = M r j := fun b => by unfold colset; rw [if_neg (by omega)]
      rw [e, e, e]
      grind
    · subst heq
      rw [minor_colset_same, minor_colset_same, minor_colset_same]
      have e : ∀ b, colset M a b r a = b r := fun b => by unfold colset; rw [if_pos rfl]
      rw [e, e, e]
      grind
    · obtain ⟨a', rfl⟩ : ∃ a', a = a' + 1 := ⟨a - 1, by omega⟩
      rw [minor_colset_gt M _ hgt, minor_colset_gt M _ hgt, minor_colset_gt M _ hgt, det_lin u v x y r a' _ (by omega)]
      have e : ∀ b, colset M (a' + 1) b r j = M r j := fun b => by unfold colset; rw [if_neg (by omega)]
      rw [e, e, e]
      grind
theorem det_adj : ∀ (r a : Nat) (M : Mt), a + 1 < r → (∀ i, i < r → M i a = M i (a + 1)) → det r M = 0
  | 0, a, M, h, _ => by omega
  | r + 1, a, M, h, e => by
    have e1 : minor M a = fun i k => M i (skip a k) := rfl
    show sumN (r + 1) _ = 0
    rw [sumN_two (a := a) h]
    · have em : det r (minor M a) = det r (minor M (a + 1)) := det_congr fun i k hi hk => by
        unfold minor skip
        by_cases hka : k = a
        · subst hka
          rw [if_neg (by omega), if_pos (by omega), e i (by omega)]
        · by_cases hlt : k < a
          · rw [if_pos hlt, if_pos (by omega)]
          · rw [if_neg hlt, if_neg (by omega)]
      rw [em, e r (by omega), show r + (a + 1) = (r + a) + 1 by omega, sg_succ]
      grind
    · intro j hj h1 h2
      have hd : det r (minor M j) = 0 := by
        rcases Nat.lt_or_ge j a with hlt | hge
        · obtain ⟨a', rfl⟩ : ∃ a', a = a' + 1 := ⟨a - 1, by omega⟩
          refine det_adj r a' _ (by omega) fun i hi => ?_
          unfold minor skip
          rw [if_neg (by omega), if_neg (by omega)]
          exact e i (by omega)
        · refine det_adj r a _ (by omega) fun i hi => ?_
          unfold minor skip
          rw [if_pos (by omega), if_pos (by omega)]
          exact e i (by omega)
      rw [hd, Int.mul_zero]
theorem colset_self (M : Mt) (a : Nat) : colset M a (fun i => M i a) = M := by
  funext i c
  unfold colset
  split
  · rename_i h; subst h; rfl
  · rfl
theorem colset_comm (M : Mt) {a b : Nat} (x y : Nat → Int) (h : a ≠ b) : colset (colset M a x) b y = colset (colset M b y) a x := by
  funext i c
  unfold colset
  by_cases h1 : c = b
  · rw [if_pos h1, if_neg (by omega), if_pos h1]
  · rw [if_neg h1]
    by_cases h2 : c = a
    · rw [if_pos h2, if_pos h2]
    · rw [if_neg h2, if_neg h2, if_neg h1]
theorem det_add (x y : Nat → Int) {r a : Nat} (M : Mt) (h : a < r) : det r (colset M a fun i => x i + y i) = det r (colset M a x) + det r (colset M a y) := by
  have := det_lin 1 1 x y r a M h
  rw [Int.one_mul, Int.one_mul] at this
  rw [← this]
  congr 1
  funext i c
  unfold colset
  split
  · show x i + y i = 1 * x i + 1 * y i
    rw [Int.one_mul, Int.one_mul]
  · rfl
/-- two adjacent columns the other way round -/
theorem det_swap {r a : Nat} (M : Mt) (h : a + 1 < r) (x y : Nat → Int) : det r (colset (colset M a x) (a + 1) y) = -det r (colset (colset M a y) (a + 1) x) := by
  have z : ∀ w : Nat → Int, det r (colset (colset M a w) (a + 1) w) = 0 := fun w => det_adj r a _ h fun i hi => by
    unfold colset
    rw [if_neg (by omega), if_pos rfl, if_pos rfl]
  have h1 := z fun i => x i + y i
  rw [det_add x y _ h] at h1
  have e : ∀ w : Nat → Int, colset (colset M a fun i => x i + y i) (a + 1) w = colset (colset M (a + 1) w) a fun i => x i + y i := fun w => colset_comm M _ _ (by omega)
  rw [e x, e y, det_add x y _ (by omega), det_add x y _ (by omega)] at h1
  have c : ∀ u w : Nat → Int, colset (colset M (a + 1) w) a u = colset (colset M a u) (a + 1) w := fun u w => (colset_comm M u w (by omega)).symm
  rw [c, c, c, c, z x, z y] at h1
  omega
theorem det_eq {r : Nat} : ∀ (d a : Nat) (M : Mt), a + d + 1 < r → (∀ i, i < r → M i a = M i (a + d + 1)) → det r M = 0
  | 0, a, M, h, e => det_adj r a M h e
  | d + 1, a, M, h, e => by
    have e1 : M = colset (colset M (a + d + 1) fun i => M i (a + d + 1)) (a + d + 1 + 1) fun i => M i (a + d + 1 + 1) := by
      rw [colset_self]
      exact (colset_self M _).symm
    rw [e1, det_swap M (by omega)]
    have h2 : det r (colset (colset M (a + d + 1) fun i => M i (a + d + 1 + 1)) (a + d + 1 + 1) fun i => M i (a + d + 1)) = 0 := by
      refine det_eq d a _ (by omega) fun i hi => ?_
      unfold colset
      rw [if_neg (by omega), if_neg (by omega), if_neg (by omega), if_pos rfl]
      exact e i hi
    rw [h2]
    rfl
/-- a column taken twice -/
theorem det_twice {r a c : Nat} (M : Mt) (ha : a < r) (hc : c < r) (hne : c ≠ a) : det r (colset M a fun i => M i c) = 0 := by
  rcases Nat.lt_or_ge a c with h | h
  · obtain ⟨d, rfl⟩ : ∃ d, c = a + d + 1 := ⟨c - a - 1, by omega⟩
    refine det_eq d a _ hc fun i hi => ?_
    unfold colset
    rw [if_pos rfl, if_neg (by omega)]
  · obtain ⟨d, rfl⟩ : ∃ d, a = c + d + 1 := ⟨a - c - 1, by omega⟩
    refine det_eq d c _ ha fun i hi => ?_
    unfold colset
    rw [if_neg (by omega), if_pos rfl]
theorem det_zero {r a : Nat} (M : Mt) (h : a < r) : det r (colset M a fun _ => 0) = 0 := by
  have := det_lin 0 0 (fun _ => 0) (fun _ => 0) r a M h
  have e : (fun _ : Nat => (0 : Int) * 0 + 0 * 0) = fun _ => 0 := by funext i; rfl
  rw [e] at this
  rw [this]; omega
theorem det_smul (u : Int) (x : Nat → Int) {r a : Nat} (M : Mt) (h : a < r) : det r (colset M a fun i => u * x i) = u * det r (colset M a x) := by
  have := det_lin u 0 x (fun _ => 0) r a M h
  have e : (fun i : Nat => u * x i + 0 * 0) = fun i => u * x i := by funext i; omega
  rw [e] at this
  rw [this]; omega
theorem det_sum {r a : Nat} (M : Mt) (h : a < r) (t : Nat → Int) : ∀ n, n ≤ r → (det r (colset M a fun i => sumN n fun c => M i c * t c)) = if a < n then t a * det r M else 0
  | 0, _ => by
    rw [if_neg (by omega)]
    exact det_zero M h
  | n + 1, hn => by
    have ih := det_sum M h t n (by omega)
    show det r (colset M a fun i => (sumN n fun c => M i c * t c) + M i n * t n) = _
    rw [det_add _ _ M h, ih]
    have e : (fun i => M i n * t n) = fun i => t n * M i n := by funext i; rw [Int.mul_comm]
    rw [e, det_smul _ _ M h]
    by_cases h1 : a < n
    · rw [if_pos h1, if_pos (by omega), det_twice M h (by omega) (by omega)]; omega
    · rw [if_neg h1]
      by_cases h2 : a = n
      · subst h2
        rw [if_pos (by omega), colset_self]; omega
      · rw [if_neg (by omega), det_twice M h (by omega) (by omega)]; omega
/-- CRAMER -/
theorem cramer {r a : Nat} (M : Mt) (b t : Nat → Int) (p : Int) (ha : a < r) (h : ∀ i, i < r → p * b i = sumN r fun c => M i c * t c) : p * det r (colset M a b) = t a * det r M := by
  rw [← det_smul p b M ha]
  have e : det r (colset M a fun i => p * b i) = det r (colset M a fun i => sumN r fun c => M i c * t c) := det_congr fun i j hi hj => by
    unfold colset
    split
    · exact h i hi
    · rfl
  rw [e, det_sum M ha t r (Nat.le_refl r), if_pos ha]
/-- the last column zero but for its last one -/
theorem det_last {r : Nat} (M : Mt) (h : ∀ i, i < r → M i r = 0) : det (r + 1) M = M r r * det r M := by
  show sumN (r + 1) _ = _
  rw [sumN_one (a := r) (by omega)]
  · have e : det r (minor M r) = det r M := det_congr fun i j hi hj => by
      unfold minor skip
      rw [if_pos hj]
    have s : sg (r + r) = 1 := by unfold sg; rw [if_pos (by omega)]
    rw [e, s, Int.one_mul]
  · intro j hj hne
    have hr : 0 < r := by omega
    have e : det r (minor M j) = 0 := by
      have e2 : det r (minor M j) = det r (colset (minor M j) (r - 1) fun _ => 0) := det_congr fun i k hi hk => by
        unfold colset
        split
        · rename_i hk2
          unfold minor skip
          rw [if_neg (by omega), hk2, show r - 1 + 1 = r by omega]
          exact h i hi
        · rfl
      rw [e2]
      exact det_zero _ (by omega)
    rw [e, Int.mul_zero]
/-- the bordered determinant -/
theorem schur {r : Nat} (M : Mt) (t : Nat → Int) (p d : Int) (h : ∀ i, i < r → p * M i r = sumN r fun c => M i c * t c) (hl : p * M r r = (sumN r fun c => M r c * t c) + d) : p * det (r + 1) M = d * det r M := by
  have e0 : det (r + 1) M = det (r + 1) (colset M r fun i => M i r) := by rw [colset_self]
  rw [e0, ← det_smul p _ M (Nat.lt_succ_self r)]
  have e : det (r + 1) (colset M r fun i => p * M i r) = det (r + 1) (colset M r fun i => (sumN r fun c => M i c * t c) + if i = r then d else 0) := det_congr fun i j hi hj => by
    unfold colset
    split
    · show p * M i r = (sumN r fun c => M i c * t c) + if i = r then d else 0
      by_cases hir : i = r
      · subst hir; rw [if_pos rfl, hl]
      · rw [if_neg hir, h i (by omega)]; omega
    · rfl
  rw [e, det_add _ _ M (Nat.lt_succ_self r), det_sum M (Nat.lt_succ_self r) t r (by omega), if_neg (by omega), Int.zero_add, det_last]
  · have e2 : colset M r (fun i => if i = r then d else 0) r r = d := by
      unfold colset
      rw [if_pos rfl]
      show (if r = r then d else 0) = d
      rw [if_pos rfl]
    rw [e2]
    congr 1
    exact det_congr fun i j hi hj => by
      unfold colset
      rw [if_neg (by omega)]
  · intro i hi
    unfold colset
    rw [if_pos rfl]
    show (if i = r then d else 0) = 0
    rw [if_neg (by omega)]
end G
end
section
/-! Lists of integers as polynomials: values, norms, sums, products; a list with many zeros is zero. -/
namespace G
def ev : List Int → Int → Int
  | [], _ => 0
  | a :: l, x => a + x * ev l x
def nrm : List Int → Nat
  | [] => 0
  | a :: l => a.natAbs + nrm l
def padd : List Int → List Int → List Int
  | [], m => m
  | a :: l, [] => a :: l
  | a :: l, b :: m => (a + b) :: padd l m
def psm (c : Int) (l : List Int) : List Int := l.map fun x => c * x
def psh : List Int → List Int
  | [] => []
  | a :: l => 0 :: a :: l
def pml : List Int → List Int → List Int
  | [], _ => []
  | a :: l, m => padd (psm a m) (psh (pml l m))
theorem ev_padd (x : Int) : ∀ l m, ev (padd l m) x = ev l x + ev m x
  | [], m => (Int.zero_add _).symm
  | a :: l, [] => (Int.add_zero _).symm
  | a :: l, b :: m => by
    show (a + b) + x * ev (padd l m) x = (a + x * ev l x) + (b + x * ev m x)
    rw [ev_padd x l m]; grind
theorem ev_psm (c x : Int) : ∀ l, ev (psm c l) x = c * ev l x
  | [] => (Int.mul_zero c).symm
  | a :: l => by
    show c * a + x * ev (psm c l) x = c * (a + x * ev l x)
    rw [ev_psm c x l]; grind
theorem ev_psh (x : Int) : ∀ l, ev (psh l) x = x * ev l x
  | [] => (Int.mul_zero x).symm
  | a :: l => by
    show 0 + x * (a + x * ev l x) = x * (a + x * ev l x)
    omega
theorem ev_pml (x : Int) : ∀ l m, ev (pml l m) x = ev l x * ev m x
  | [], m => (Int.zero_mul _).symm
  | a :: l, m => by
    show ev (padd (psm a m) (psh (pml l m))) x = (a + x * ev l x) * ev m x
    rw [ev_padd, ev_psm, ev_psh, ev_pml x l m]; grind
theorem nrm_padd : ∀ l m, nrm (padd l m) ≤ nrm l + nrm m
  | [], m => by show nrm m ≤ 0 + nrm m; omega
  | a :: l, [] => by show nrm (a :: l) ≤ nrm (a :: l) + 0; omega
  | a :: l, b :: m => by
    show (a + b).natAbs + nrm (padd l m) ≤ (a.natAbs + nrm l) + (b.natAbs + nrm m)
    have := nrm_padd l m
    omega
theorem nrm_psm (c : Int) : ∀ l, nrm (psm c l) = c.natAbs * nrm l
  | [] => rfl
  | a :: l => by
    show (c * a).natAbs + nrm (psm c l) = c.natAbs * (a.natAbs + nrm l)
    rw [nrm_psm c l, Int.natAbs_mul, Nat.mul_add]
theorem nrm_psh : ∀ l, nrm (psh l) = nrm l
  | [] => rfl
  | a :: l => by show (0 : Int).natAbs + nrm (a :: l) = nrm (a :: l); rw [Int.natAbs_zero, Nat.zero_add]
theorem nrm_pml : ∀ l m, nrm (pml l m) ≤ nrm l * nrm m
  | [], m => Nat.zero_le _
  | a :: l, m => by
    show nrm (padd (psm a m) (psh (pml l m))) ≤ (a.natAbs + nrm l) * nrm m
    have h := nrm_padd (psm a m) (psh (pml l m))
    rw [nrm_psm, nrm_psh] at h
    have h2 := nrm_pml l m
    rw [Nat.add_mul]
    omega
theorem len_padd : ∀ l m : List Int, (padd l m).length = max l.length m.length
  | [], m => by show m.length = max 0 m.length; omega
  | a :: l, [] => by show (a :: l).length = max (a :: l).length 0; omega
  | a :: l, b :: m => by
    show (padd l m).length + 1 = max (l.length + 1) (m.length + 1)
    rw [len_padd l m]; omega
theorem len_psm (c : Int) (l : List Int) : (psm c l).length = l.length := List.length_map ..
theorem pml_nil : ∀ l, pml l [] = []
  | [] => rfl
  | a :: l => by
    show padd (psm a []) (psh (pml l [])) = []
    rw [pml_nil l]; rfl
theorem len_psh : ∀ l : List Int, (psh l).length ≤ l.length + 1
  | [] => Nat.zero_le _
  | a :: l => Nat.le_refl _
theorem len_pml : ∀ (l m : List Int), l ≠ [] → m ≠ [] → (pml l m).length + 1 ≤ l.length + m.length
  | [], m, h, _ => absurd rfl h
  | a :: l, m, _, hm => by
    show (padd (psm a m) (psh (pml l m))).length + 1 ≤ l.length + 1 + m.length
    rw [len_padd, len_psm]
    have hp : 0 < m.length := List.length_pos_iff.mpr hm
    cases l with
    | nil => show max m.length 0 + 1 ≤ _; omega
    | cons b l =>
      have h := len_pml (b :: l) m (by simp) hm
      have h2 := len_psh (pml (b :: l) m)
      omega
theorem getD_padd : ∀ (l m : List Int) (i : Nat), (padd l m).getD i 0 = l.getD i 0 + m.getD i 0
  | [], m, i => by
    show m.getD i 0 = (([] : List Int)).getD i 0 + m.getD i 0
    rw [show (([] : List Int)).getD i 0 = 0 from by simp]; omega
  | a :: l, [], i => by
    show (a :: l).getD i 0 = (a :: l).getD i 0 + (([] : List Int)).getD i 0
    rw [show (([] : List Int)).getD i 0 = 0 from by simp]; omega
  | a :: l, b :: m, 0 => by simp [padd]
  | a :: l, b :: m, i + 1 => by
    have := getD_padd l m i
    simpa [padd] using this
theorem getD_psm (c : Int) (l : List Int) (i : Nat) : (psm c l).getD i 0 = c * l.getD i 0 := map_getD0 (Int.mul_zero c) i
theorem natAbs_getD : ∀ (l : List Int) (i : Nat), (l.getD i 0).natAbs ≤ nrm l
  | [], i => by simp
  | a :: l, 0 => by
    show (a : Int).natAbs ≤ a.natAbs + nrm l
    omega
  | a :: l, i + 1 => by
    have := natAbs_getD l i
    show ((a :: l).getD (i + 1) 0).natAbs ≤ a.natAbs + nrm l
    rw [show (a :: l).getD (i + 1) 0 = l.getD i 0 by simp]
    omega
theorem natAbs_mem {l : List Int} {c : Int} (h : c ∈ l) : c.natAbs ≤ nrm l := by
  obtain ⟨i, hi, rfl⟩ := List.getElem_of_mem h
  have := natAbs_getD l i
  rw [List.getD_eq_getElem?_getD, List.getElem?_eq_getElem hi] at this
  exact this
theorem ev_zero {x : Int} : ∀ {l : List Int}, (∀ i, l.getD i 0 = 0) → ev l x = 0
  | [], _ => rfl
  | a :: l, h => by
    have h0 : a = 0 := by simpa using h 0
    have h1 := ev_zero (x := x) (l := l) fun i => by simpa using h (i + 1)
    show a + x * ev l x = 0
    rw [h0, h1]; omega
/-- no zero beyond the norm -/
theorem evn_ne {x : Int} : ∀ {l : List Int}, (nrm l : Int) < x → (∃ i, l.getD i 0 ≠ 0) → ev l x ≠ 0
  | [], _, ⟨i, h⟩ => absurd (by simp) h
  | a :: l, hx, ⟨i, h⟩ => by
    have hx' : ((a.natAbs + nrm l : Nat) : Int) < x := hx
    show a + x * ev l x ≠ 0
    by_cases hl : ∃ i, l.getD i 0 ≠ 0
    · have ih := evn_ne (x := x) (l := l) (by omega) hl
      intro z
      have h2 : (x * ev l x).natAbs = a.natAbs := by omega
      rw [Int.natAbs_mul] at h2
      have h3 : x.natAbs ≤ x.natAbs * (ev l x).natAbs := Nat.le_mul_of_pos_right _ (Int.natAbs_pos.mpr ih)
      omega
    · have h1 : ∀ i, l.getD i 0 = 0 := fun i => Decidable.byContradiction fun z => hl ⟨i, z⟩
      rw [ev_zero h1]
      cases i with
      | zero =>
        have : a ≠ 0 := by simpa using h
        omega
      | succ i => exact absurd (h1 i) (by simpa using h)
/-- eventually -/
def Evt (p : Int → Prop) : Prop := ∃ X : Int, ∀ x, X ≤ x → p x
theorem Evt.and {p q : Int → Prop} (h1 : Evt p) (h2 : Evt q) : Evt fun x => p x ∧ q x := by
  obtain ⟨X, a⟩ := h1
  obtain ⟨Y, b⟩ := h2
  exact ⟨max X Y, fun x hx => ⟨a x (by omega), b x (by omega)⟩⟩
theorem Evt.mono {p q : Int → Prop} (h : Evt p) (f : ∀ x, p x → q x) : Evt q := by
  obtain ⟨X, a⟩ := h
  exact ⟨X, fun x hx => f x (a x hx)⟩
theorem Evt.all {p : Int → Prop} (h : ∀ x, p x) : Evt p := ⟨0, fun x _ => h x⟩
theorem Evt.ge (X : Int) : Evt fun x => X ≤ x := ⟨X, fun _ h => h⟩
theorem Evt.ex {p : Int → Prop} (h : Evt p) : ∃ n : Nat, p n := by
  obtain ⟨X, a⟩ := h
  exact ⟨X.toNat, a _ (by omega)⟩
theorem Evt.list {α : Type} {p : α → Int → Prop} : ∀ (l : List α), (∀ a ∈ l, Evt (p a)) → Evt fun x => ∀ a ∈ l, p a x
  | [], _ => Evt.all fun x a h => by cases h
  | b :: l, h => ((h b (List.mem_cons_self ..)).and (Evt.list l fun a ha => h a (List.mem_cons_of_mem _ ha))).mono fun x hx a ha => by
    rcases List.mem_cons.mp ha with rfl | ha
    · exact hx.1
    · exact hx.2 a ha
theorem Evt.upto {p : Nat → Int → Prop} (n : Nat) (h : ∀ i, i < n → Evt (p i)) : Evt fun x => ∀ i, i < n → p i x :=
  (Evt.list (p := p) (List.range n) fun i hi => h i (List.mem_range.mp hi)).mono fun x hx i hi => hx i (List.mem_range.mpr hi)
theorem evt_ne {l : List Int} (h : ∃ i, l.getD i 0 ≠ 0) : Evt fun x => ev l x ≠ 0 := ⟨(nrm l : Int) + 1, fun x hx => evn_ne (by omega) h⟩
/-- equal values from some point on: equal coefficients -/
theorem coef_eq {l m : List Int} (h : Evt fun x => ev l x = ev m x) (i : Nat) : l.getD i 0 = m.getD i 0 := by
  apply Decidable.byContradiction
  intro hne
  have hd : ∃ i, (padd l (psm (-1) m)).getD i 0 ≠ 0 := ⟨i, by rw [getD_padd, getD_psm]; omega⟩
  obtain ⟨n, h1, h2⟩ := ((evt_ne hd).and h).ex
  rw [ev_padd, ev_psm, h2] at h1
  exact h1 (by omega)
theorem ev_of_coef {l m : List Int} (h : ∀ i, l.getD i 0 = m.getD i 0) (x : Int) : ev l x = ev m x := by
  have : ev (padd l (psm (-1) m)) x = 0 := ev_zero fun i => by rw [getD_padd, getD_psm, h i]; omega
  rw [ev_padd, ev_psm] at this
  omega
/-! ### trimming -/
theorem ev_take_zero (x : Int) : ∀ (l : List Int) (n : Nat), (∀ i, n ≤ i → l.getD i 0 = 0) → ev (l.take n) x = ev l x
  | [], n, _ => by rw [List.take_nil]
  | a :: l, 0, h => by
    rw [List.take_zero]
    exact (ev_zero fun i => h i (Nat.zero_le _)).symm
  | a :: l, n + 1, h => by
    show a + x * ev (l.take n) x = a + x * ev l x
    rw [ev_take_zero x l n fun i hi => by simpa using h (i + 1) (by omega)]
theorem getD_take (l : List Int) (n i : Nat) : (l.take n).getD i 0 = if i < n then l.getD i 0 else 0 := by
  rw [List.getD_eq_getElem?_getD, List.getD_eq_getElem?_getD, List.getElem?_take]
  split <;> rfl
theorem getD_trim (l : List Int) (i : Nat) : (trim l).getD i 0 = l.getD i 0 := by
  unfold trim trimBy
  rw [getD_take]
  split
  · rfl
  · rename_i h
    rw [List.getD_eq_getElem?_getD]
    cases e : l[i]? with
    | none => rfl
    | some y => exact (of_decide_eq_true (trimLen_out zI l i y (by omega) e)).symm
theorem ev_trim (l : List Int) (x : Int) : ev (trim l) x = ev l x := ev_of_coef (getD_trim l) x
/-- trimmed: empty or the last not zero -/
def Tr (l : List Int) : Prop := l = [] ∨ l.getD (l.length - 1) 0 ≠ 0
theorem tr_trim (l : List Int) : Tr (trim l) := by
  cases e : trimLen zI l with
  | zero =>
    left
    unfold trim trimBy
    rw [e, List.take_zero]
  | succ n =>
    right
    obtain ⟨y, h1, h2⟩ := trimLen_last zI l n e
    have hl : (trim l).length = n + 1 := by unfold trim; rw [trimBy_len, e]
    rw [hl, getD_trim, List.getD_eq_getElem?_getD, show n + 1 - 1 = n by omega, h1]
    exact of_decide_eq_false h2
theorem getD_out {l : List Int} {i : Nat} (h : l.length ≤ i) : l.getD i 0 = 0 := by
  rw [List.getD_eq_getElem?_getD, List.getElem?_eq_none h]; rfl
/-- trimmed lists of the same coefficients are the same -/
theorem tr_len {l m : List Int} (hl : Tr l) (h : ∀ i, l.getD i 0 = m.getD i 0) : l.length ≤ m.length := by
  rcases hl with rfl | hl
  · exact Nat.zero_le _
  · apply Decidable.byContradiction
    intro z
    rw [h, getD_out (by omega)] at hl
    exact hl rfl
theorem tr_eq {l m : List Int} (hl : Tr l) (hm : Tr m) (h : ∀ i, l.getD i 0 = m.getD i 0) : l = m := by
  have e : l.length = m.length := Nat.le_antisymm (tr_len hl h) (tr_len hm fun i => (h i).symm)
  apply List.ext_getElem e
  intro i h1 h2
  have := h i
  rw [List.getD_eq_getElem?_getD, List.getD_eq_getElem?_getD, List.getElem?_eq_getElem h1, List.getElem?_eq_getElem h2] at this
  exact this
theorem nrm_le_of {l : List Int} : ∀ {m : List Int}, (∀ i, (l.getD i 0).natAbs ≤ (m.getD i 0).natAbs) → nrm l ≤ nrm m := by
  induction l with
  | nil => intro m _; exact Nat.zero_le _
  | cons a l ih =>
    intro m h
    cases m with
    | nil =>
      have : nrm (a :: l) = 0 := by
        have hz : ∀ i, (a :: l).getD i 0 = 0 := fun i => by have := h i; simp at this ⊢; omega
        clear h ih
        generalize a :: l = k at hz
        induction k with
        | nil => rfl
        | cons b k ih =>
          show b.natAbs + nrm k = 0
          rw [ih fun i => by simpa using hz (i + 1)]
          have : b = 0 := by simpa using hz 0
          omega
      omega
    | cons b m =>
      show a.natAbs + nrm l ≤ b.natAbs + nrm m
      have h0 : a.natAbs ≤ b.natAbs := by simpa using h 0
      have h1 := ih (m := m) fun i => by simpa using h (i + 1)
      omega
theorem nrm_trim (l : List Int) : nrm (trim l) ≤ nrm l := nrm_le_of fun i => by rw [getD_trim]; exact Nat.le_refl _
end G
end
section
/-! Canonical fractions and polynomials: values, uniqueness. -/
namespace G
theorem dvd_gcdI {d a b : Int} (h1 : d ∣ a) (h2 : d ∣ b) : d ∣ gcdI a b := by
  unfold gcdI
  exact Int.natAbs_dvd_natAbs.mp (by rw [Int.natAbs_natCast]; exact Nat.dvd_gcd (Int.natAbs_dvd_natAbs.mpr h1) (Int.natAbs_dvd_natAbs.mpr h2))
theorem dvd_gcdI_mul {d a b k : Int} (h1 : d ∣ a * k) (h2 : d ∣ b * k) : d ∣ gcdI a b * k := by
  unfold gcdI
  refine Int.natAbs_dvd_natAbs.mp ?_
  rw [Int.natAbs_mul, Int.natAbs_natCast, ← Nat.gcd_mul_right]
  exact Nat.dvd_gcd (by rw [← Int.natAbs_mul]; exact Int.natAbs_dvd_natAbs.mpr h1) (by rw [← Int.natAbs_mul]; exact Int.natAbs_dvd_natAbs.mpr h2)
theorem contL_great {d k : Int} {l : List Int} (h : ∀ i, d ∣ l.getD i 0 * k) : ∀ n, d ∣ contL l 0 n * k
  | 0 => by show d ∣ 0 * k; rw [Int.zero_mul]; exact Int.dvd_zero d
  | n + 1 => dvd_gcdI_mul (contL_great h n) (h n)
theorem content_great {d k : Int} {l : List Int} (h : ∀ i, d ∣ l.getD i 0 * k) : d ∣ content l * k := contL_great h l.length
theorem content_great1 {d : Int} {l : List Int} (h : ∀ i, d ∣ l.getD i 0) : d ∣ content l := by
  have := content_great (k := 1) (l := l) (d := d) fun i => by rw [Int.mul_one]; exact h i
  rwa [Int.mul_one] at this
theorem content_dvd' (l : List Int) (i : Nat) : content l ∣ l.getD i 0 := by
  rcases Nat.lt_or_ge i l.length with h | h
  · exact content_dvd (getD_memL h)
  · rw [getD_out h]; exact Int.dvd_zero _
theorem content_zero {l : List Int} (h : content l = 0) (i : Nat) : l.getD i 0 = 0 := by
  have := content_dvd' l i
  rw [h] at this
  exact Int.zero_dvd.mp this
/-! ### canonical forms -/
structure POk (p : Po) : Prop where
  den : 0 < p.den
  tr : Tr p.co
  cop : gcdI (content p.co) p.den = 1
structure FOk (f : Fr) : Prop where
  den : 0 < f.den
  cop : gcdI f.num f.den = 1
theorem fdiv_mul {x g : Int} (h : g ∣ x) (hg : g ≠ 0) : x.fdiv g * g = x := by
  obtain ⟨c, rfl⟩ := h
  rw [Int.mul_fdiv_cancel_left c hg, Int.mul_comm]
theorem fdiv_pos {g d : Int} (h : sgnd g d ∣ d) (hg : 0 < g) (hd : d ≠ 0) : 0 < d.fdiv (sgnd g d) := by
  have hs : sgnd g d ≠ 0 := sgnd_ne (by omega)
  have e := fdiv_mul h hs
  generalize d.fdiv (sgnd g d) = q at e
  apply Decidable.byContradiction
  intro z
  have hq : q ≤ 0 := by omega
  unfold sgnd at e
  split at e
  · have := Int.mul_nonneg_of_nonpos_of_nonpos hq (show -g ≤ 0 by omega)
    omega
  · have := Int.mul_nonpos_of_nonneg_of_nonpos (show 0 ≤ g by omega) hq
    rw [Int.mul_comm] at this
    omega
theorem gcdI_pos {a b : Int} (h : b ≠ 0) : 0 < gcdI a b := by
  have := gcdI_nn a b
  have := gcdI_ne (a := a) h
  omega
theorem unit_gcd {h : Int} (h0 : 0 ≤ h) {g : Int} (hg : g ≠ 0) (hd : h * g ∣ g) : h = 1 := by
  obtain ⟨c, hc⟩ := hd
  have e : h * c = 1 := Int.eq_of_mul_eq_mul_left hg (by rw [Int.mul_one]; grind)
  exact Int.eq_one_of_mul_eq_one_right h0 e
theorem dvd_sgnd {g d x : Int} : x ∣ sgnd g d ↔ x ∣ g := by
  unfold sgnd
  split
  · exact Int.dvd_neg
  · exact Iff.rfl
theorem fok_mkF (n : Int) {d : Int} (hd : d ≠ 0) : FOk (mkF n d) := by
  have hg : 0 < gcdI n d := gcdI_pos hd
  have hs : sgnd (gcdI n d) d ≠ 0 := sgnd_ne (by omega)
  have d1 : sgnd (gcdI n d) d ∣ n := sgnd_dvd.mpr (gcdI_dvd_left n d)
  have d2 : sgnd (gcdI n d) d ∣ d := sgnd_dvd.mpr (gcdI_dvd_right n d)
  have e1 := fdiv_mul d1 hs
  have e2 := fdiv_mul d2 hs
  refine ⟨fdiv_pos d2 hg hd, unit_gcd (gcdI_nn _ _) hs ?_⟩
  refine dvd_sgnd.mpr (dvd_gcdI ?_ ?_)
  · obtain ⟨c, hc⟩ := gcdI_dvd_left (n.fdiv (sgnd (gcdI n d) d)) (d.fdiv (sgnd (gcdI n d) d))
    refine ⟨c, ?_⟩
    show n = gcdI (n.fdiv (sgnd (gcdI n d) d)) (d.fdiv (sgnd (gcdI n d) d)) * sgnd (gcdI n d) d * c
    rw [← e1] at *
    grind
  · obtain ⟨c, hc⟩ := gcdI_dvd_right (n.fdiv (sgnd (gcdI n d) d)) (d.fdiv (sgnd (gcdI n d) d))
    exact ⟨c, by show d = gcdI (n.fdiv (sgnd (gcdI n d) d)) (d.fdiv (sgnd (gcdI n d) d)) * sgnd (gcdI n d) d * c; grind⟩
theorem fok_eq {a b : Fr} (ha : FOk a) (hb : FOk b) (h : a.num * b.den = b.num * a.den) : a = b := by
  have h1 : a.den ∣ b.den := by
    have : a.den ∣ gcdI a.num a.den * b.den := dvd_gcdI_mul ⟨b.num, by rw [h, Int.mul_comm]⟩ ⟨b.den, rfl⟩
    rwa [ha.cop, Int.one_mul] at this
  have h2 : b.den ∣ a.den := by
    have : b.den ∣ gcdI b.num b.den * a.den := dvd_gcdI_mul ⟨a.num, by rw [← h, Int.mul_comm]⟩ ⟨a.den, rfl⟩
    rwa [hb.cop, Int.one_mul] at this
  have e : a.den = b.den := Int.dvd_antisymm (Int.le_of_lt ha.den) (Int.le_of_lt hb.den) h1 h2
  have e2 : a.num = b.num := by
    rw [e] at h
    exact Int.eq_of_mul_eq_mul_right (by have := hb.den; omega) h
  cases a; cases b
  simp_all
def fv (f : Fr) : Rat := (f.num : Rat) / (f.den : Rat)
theorem fv_mkF (n : Int) {d : Int} (hd : d ≠ 0) : fv (mkF n d) = (n : Rat) / (d : Rat) := by
  have hs : sgnd (gcdI n d) d ≠ 0 := sgnd_ne (gcdI_ne hd)
  have e1 := fdiv_mul (sgnd_dvd.mpr (gcdI_dvd_left n d) : sgnd (gcdI n d) d ∣ n) hs
  have e2 := fdiv_mul (sgnd_dvd.mpr (gcdI_dvd_right n d) : sgnd (gcdI n d) d ∣ d) hs
  have hq : d.fdiv (sgnd (gcdI n d) d) ≠ 0 := fun z => by rw [z, Int.zero_mul] at e2; exact hd e2.symm
  show ((n.fdiv (sgnd (gcdI n d) d) : Int) : Rat) / ((d.fdiv (sgnd (gcdI n d) d) : Int) : Rat) = n / d
  generalize sgnd (gcdI n d) d = g at *
  generalize n.fdiv g = a at *
  generalize d.fdiv g = b at *
  have c1 : (a : Rat) * (g : Rat) = (n : Rat) := by exact_mod_cast e1
  have c2 : (b : Rat) * (g : Rat) = (d : Rat) := by exact_mod_cast e2
  have c3 : (b : Rat) ≠ 0 := by exact_mod_cast hq
  have c4 : (g : Rat) ≠ 0 := by exact_mod_cast hs
  rw [← c1, ← c2]
  grind
theorem fv_eq {a b : Fr} (ha : FOk a) (hb : FOk b) (h : fv a = fv b) : a = b := by
  refine fok_eq ha hb ?_
  have h1 : (a.den : Rat) ≠ 0 := by have := ha.den; exact_mod_cast (show a.den ≠ 0 by omega)
  have h2 : (b.den : Rat) ≠ 0 := by have := hb.den; exact_mod_cast (show b.den ≠ 0 by omega)
  unfold fv at h
  have : (a.num : Rat) * (b.den : Rat) = (b.num : Rat) * (a.den : Rat) := by grind
  exact_mod_cast this
/-! ### polynomials -/
theorem getD_mapZ {l : List Int} {f : Int → Int} (h : f 0 = 0) (i : Nat) : (l.map f).getD i 0 = f (l.getD i 0) := map_getD0 h i
theorem pok_mkP (cs : List Int) {d : Int} (hd : d ≠ 0) : POk (mkP cs d) := by
  have hg : 0 < gcdI (content (trim cs)) d := gcdI_pos hd
  have hs : sgnd (gcdI (content (trim cs)) d) d ≠ 0 := sgnd_ne (by omega)
  have d1 : ∀ i, sgnd (gcdI (content (trim cs)) d) d ∣ (trim cs).getD i 0 := fun i => sgnd_dvd.mpr (Int.dvd_trans (gcdI_dvd_left _ d) (content_dvd' _ i))
  have d2 : sgnd (gcdI (content (trim cs)) d) d ∣ d := sgnd_dvd.mpr (gcdI_dvd_right _ d)
  have e2 := fdiv_mul d2 hs
  have hco : ∀ i, (mkP cs d).co.getD i 0 = ((trim cs).getD i 0).fdiv (sgnd (gcdI (content (trim cs)) d) d) := fun i => getD_mapZ (f := fun c => c.fdiv (sgnd (gcdI (content (trim cs)) d) d)) (Int.zero_fdiv _) i
  have e1 : ∀ i, (mkP cs d).co.getD i 0 * sgnd (gcdI (content (trim cs)) d) d = (trim cs).getD i 0 := fun i => by rw [hco]; exact fdiv_mul (d1 i) hs
  refine ⟨fdiv_pos d2 hg hd, ?_, unit_gcd (gcdI_nn _ _) hs ?_⟩
  · have hl : (mkP cs d).co.length = (trim cs).length := List.length_map ..
    rcases tr_trim cs with h | h
    · left
      exact List.eq_nil_of_length_eq_zero (by rw [hl, h]; rfl)
    · right
      rw [hl]
      intro z
      have := e1 ((trim cs).length - 1)
      rw [z, Int.zero_mul] at this
      exact h this.symm
  · refine dvd_sgnd.mpr (dvd_gcdI ?_ ?_)
    · refine content_great1 fun i => ?_
      obtain ⟨c, hc⟩ := Int.dvd_trans (gcdI_dvd_left (content (mkP cs d).co) (mkP cs d).den) (content_dvd' _ i)
      refine ⟨c, ?_⟩
      rw [← e1 i]
      grind
    · obtain ⟨c, hc⟩ := gcdI_dvd_right (content (mkP cs d).co) (mkP cs d).den
      have e3 : (mkP cs d).den * sgnd (gcdI (content (trim cs)) d) d = d := e2
      exact ⟨c, by rw [← e3] ; grind⟩
theorem getD_mkP (cs : List Int) {d : Int} (hd : d ≠ 0) (i : Nat) : (mkP cs d).co.getD i 0 * d = cs.getD i 0 * (mkP cs d).den := by
  have hs : sgnd (gcdI (content (trim cs)) d) d ≠ 0 := sgnd_ne (gcdI_ne hd)
  have d1 : sgnd (gcdI (content (trim cs)) d) d ∣ (trim cs).getD i 0 := sgnd_dvd.mpr (Int.dvd_trans (gcdI_dvd_left _ d) (content_dvd' _ i))
  have d2 : sgnd (gcdI (content (trim cs)) d) d ∣ d := sgnd_dvd.mpr (gcdI_dvd_right _ d)
  have e2 := fdiv_mul d2 hs
  have hco : (mkP cs d).co.getD i 0 = ((trim cs).getD i 0).fdiv (sgnd (gcdI (content (trim cs)) d) d) := getD_mapZ (f := fun c => c.fdiv (sgnd (gcdI (content (trim cs)) d) d)) (Int.zero_fdiv _) i
  have e1 := fdiv_mul d1 hs
  rw [← hco, getD_trim] at e1
  have e3 : (mkP cs d).den * sgnd (gcdI (content (trim cs)) d) d = d := e2
  rw [← e1, ← e3]
  grind
def pv (p : Po) (x : Int) : Rat := (ev p.co x : Rat) / (p.den : Rat)
theorem pok_eq {p q : Po} (hp : POk p) (hq : POk q) (h : ∀ i, p.co.getD i 0 * q.den = q.co.getD i 0 * p.den) : p = q := by
  have h1 : p.den ∣ q.den := by
    have : p.den ∣ gcdI (content p.co) p.den * q.den := dvd_gcdI_mul (content_great fun i => ⟨q.co.getD i 0, by rw [h, Int.mul_comm]⟩) ⟨q.den, rfl⟩
    rwa [hp.cop, Int.one_mul] at this
  have h2 : q.den ∣ p.den := by
    have : q.den ∣ gcdI (content q.co) q.den * p.den := dvd_gcdI_mul (content_great fun i => ⟨p.co.getD i 0, by rw [← h, Int.mul_comm]⟩) ⟨p.den, rfl⟩
    rwa [hq.cop, Int.one_mul] at this
  have e : p.den = q.den := Int.dvd_antisymm (Int.le_of_lt hp.den) (Int.le_of_lt hq.den) h1 h2
  have e2 : p.co = q.co := tr_eq hp.tr hq.tr fun i => by
    have := h i
    rw [e] at this
    exact Int.eq_of_mul_eq_mul_right (by have := hq.den; omega) this
  cases p; cases q
  simp_all
theorem den_ne {d : Int} (h : d ≠ 0) : (d : Rat) ≠ 0 := by exact_mod_cast h
theorem POk.ne {p : Po} (h : POk p) : p.den ≠ 0 := by have := h.den; omega
theorem pv_eq {p q : Po} (hp : POk p) (hq : POk q) (h : Evt fun x => pv p x = pv q x) : p = q := by
  refine pok_eq hp hq fun i => ?_
  have h2 : Evt fun x => ev (psm q.den p.co) x = ev (psm p.den q.co) x := h.mono fun x e => by
    rw [ev_psm, ev_psm]
    have h1 := den_ne hp.ne
    have h2 := den_ne hq.ne
    unfold pv at e
    have : (q.den : Rat) * (ev p.co x : Rat) = (p.den : Rat) * (ev q.co x : Rat) := by grind
    exact_mod_cast this
  have := coef_eq h2 i
  rw [getD_psm, getD_psm] at this
  grind
theorem ev_mkP (cs : List Int) {d : Int} (hd : d ≠ 0) (x : Int) : ev (mkP cs d).co x * d = ev cs x * (mkP cs d).den := by
  have h : ev (psm d (mkP cs d).co) x = ev (psm (mkP cs d).den cs) x := ev_of_coef (fun i => by
    have := getD_mkP cs hd i
    rw [getD_psm, getD_psm]; grind) x
  rw [ev_psm, ev_psm] at h
  grind
theorem pv_mkP (cs : List Int) {d : Int} (hd : d ≠ 0) (x : Int) : pv (mkP cs d) x = (ev cs x : Rat) / (d : Rat) := by
  have h := ev_mkP cs hd x
  have h1 := den_ne hd
  have h2 := den_ne (pok_mkP cs hd).ne
  have h3 : (ev (mkP cs d).co x : Rat) * (d : Rat) = (ev cs x : Rat) * ((mkP cs d).den : Rat) := by exact_mod_cast h
  unfold pv
  grind
end G
end
section
/-! Values of the operations. -/
namespace G
theorem FOk.ne {f : Fr} (h : FOk f) : f.den ≠ 0 := by have := h.den; omega
section
variable {a b : Fr}
theorem fv_add (ha : a.den ≠ 0) (hb : b.den ≠ 0) : fv (fAdd a b) = fv a + fv b := by
  unfold fAdd
  rw [fv_mkF _ (mul_ne ha hb)]
  have h1 := den_ne ha
  have h2 := den_ne hb
  unfold fv
  push_cast
  grind
theorem fv_sub (ha : a.den ≠ 0) (hb : b.den ≠ 0) : fv (fSub a b) = fv a - fv b := by
  unfold fSub
  rw [fv_mkF _ (mul_ne ha hb)]
  have h1 := den_ne ha
  have h2 := den_ne hb
  unfold fv
  push_cast
  grind
theorem fv_mul (ha : a.den ≠ 0) (hb : b.den ≠ 0) : fv (fMul a b) = fv a * fv b := by
  unfold fMul
  rw [fv_mkF _ (mul_ne ha hb)]
  have h1 := den_ne ha
  have h2 := den_ne hb
  unfold fv
  push_cast
  grind
theorem fv_neg (ha : a.den ≠ 0) : fv (fNeg a) = -fv a := by
  unfold fNeg
  rw [fv_mkF _ ha]
  have h1 := den_ne ha
  unfold fv
  push_cast
  grind
theorem fv_over (ha : a.den ≠ 0) (hb : b.den ≠ 0) (h0 : b.num ≠ 0) : fv (fOver a b) = fv a / fv b := by
  unfold fOver
  rw [fv_mkF _ (mul_ne ha h0)]
  have h1 := den_ne ha
  have h2 := den_ne hb
  have h3 := den_ne h0
  unfold fv
  push_cast
  grind
theorem fv_zero (ha : a.den ≠ 0) : fv a = 0 ↔ a.num = 0 := by
  have h1 := den_ne ha
  unfold fv
  constructor
  · intro h
    have : (a.num : Rat) = 0 := by grind
    exact_mod_cast this
  · intro h
    rw [h]
    grind
theorem fok_add (ha : a.den ≠ 0) (hb : b.den ≠ 0) : FOk (fAdd a b) := fok_mkF _ (mul_ne ha hb)
theorem fok_sub (ha : a.den ≠ 0) (hb : b.den ≠ 0) : FOk (fSub a b) := fok_mkF _ (mul_ne ha hb)
theorem fok_mul (ha : a.den ≠ 0) (hb : b.den ≠ 0) : FOk (fMul a b) := fok_mkF _ (mul_ne ha hb)
theorem fok_neg (ha : a.den ≠ 0) : FOk (fNeg a) := fok_mkF _ ha
theorem fok_over (ha : a.den ≠ 0) (h0 : b.num ≠ 0) : FOk (fOver a b) := fok_mkF _ (mul_ne ha h0)
end
theorem fv_f0 : fv f0 = 0 := by unfold f0; rw [fv_mkF 0 (by decide)]; grind
theorem fv_f1 : fv f1 = 1 := by unfold f1; rw [fv_mkF 1 (by decide)]; grind
/-! ### lists -/
theorem getD_rangeMap (n : Nat) (f : Nat → Int) (i : Nat) : ((List.range n).map f).getD i 0 = if i < n then f i else 0 := by
  rw [List.getD_eq_getElem?_getD, List.getElem?_map]
  split
  · rename_i h; rw [List.getElem?_range h]; rfl
  · rename_i h; rw [List.getElem?_eq_none (by rw [List.length_range]; omega)]; rfl
theorem getD_pad (l : List Int) (n i : Nat) : (pad l n).getD i 0 = l.getD i 0 := by
  unfold pad
  rw [List.getD_eq_getElem?_getD, List.getD_eq_getElem?_getD]
  by_cases h : i < l.length
  · rw [List.getElem?_append_left h]
  · rw [List.getElem?_append_right (by omega), List.getElem?_replicate, List.getElem?_eq_none (by omega)]
    split <;> rfl
theorem ev_setL (x : Int) : ∀ (l : List Int) (i : Nat) (v : Int), i < l.length → ev (l.set i v) x = ev l x + (v - l.getD i 0) * x ^ i
  | [], i, v, h => by cases h
  | a :: l, 0, v, _ => by
    show v + x * ev l x = (a + x * ev l x) + (v - (a :: l).getD 0 0) * x ^ 0
    rw [show (a :: l).getD 0 0 = a by simp]
    grind
  | a :: l, i + 1, v, h => by
    show a + x * ev (l.set i v) x = (a + x * ev l x) + (v - (a :: l).getD (i + 1) 0) * x ^ (i + 1)
    rw [ev_setL x l i v (by simpa using h), show (a :: l).getD (i + 1) 0 = l.getD i 0 by simp, Int.pow_succ]
    grind
theorem ev_take_succ (x : Int) : ∀ (l : List Int) (n : Nat), ev (l.take (n + 1)) x = ev (l.take n) x + l.getD n 0 * x ^ n
  | [], n => by rw [List.take_nil, List.take_nil]; simp
  | a :: l, 0 => by
    show a + x * ev (l.take 0) x = 0 + (a :: l).getD 0 0 * x ^ 0
    rw [List.take_zero, show (a :: l).getD 0 0 = a by simp]
    show a + x * 0 = _
    grind
  | a :: l, n + 1 => by
    show a + x * ev (l.take (n + 1)) x = (a + x * ev (l.take n) x) + (a :: l).getD (n + 1) 0 * x ^ (n + 1)
    rw [ev_take_succ x l n, show (a :: l).getD (n + 1) 0 = l.getD n 0 by simp, Int.pow_succ]
    grind
theorem ev_mulIn (a x : Int) (i : Nat) (l s : List Int) : ∀ n, n ≤ l.length → i + n ≤ s.length → ev (mulIn a i l n s) x = ev s x + a * x ^ i * ev (l.take n) x
  | 0, _, _ => by
    show ev s x = ev s x + a * x ^ i * ev (l.take 0) x
    rw [List.take_zero]
    show _ = _ + _ * 0
    omega
  | n + 1, h1, h2 => by
    have ih := ev_mulIn a x i l s n (by omega) (by omega)
    show ev ((mulIn a i l n s).set (i + n) ((mulIn a i l n s).getD (i + n) 0 + a * l.getD n 0)) x = _
    rw [ev_setL x _ _ _ (by rw [mulIn_len]; omega), ih, ev_take_succ, Int.pow_add]
    grind
theorem ev_mulOut (x : Int) (k l s : List Int) : ∀ n, n ≤ k.length → k.length + l.length ≤ s.length → ev (mulOut k l n s) x = ev s x + ev (k.take n) x * ev l x
  | 0, _, _ => by
    show ev s x = ev s x + ev (k.take 0) x * ev l x
    rw [List.take_zero]
    show _ = _ + 0 * _
    omega
  | n + 1, h1, h2 => by
    have ih := ev_mulOut x k l s n (by omega) h2
    show ev (mulIn (k.getD n 0) n l l.length (mulOut k l n s)) x = _
    rw [ev_mulIn _ x n l _ l.length (Nat.le_refl _) (by rw [mulOut_len]; omega), ih, List.take_length, ev_take_succ]
    grind
theorem ev_rep (x : Int) (n : Nat) : ev (List.replicate n 0) x = 0 := ev_zero fun i => rep_getD n i
theorem ev_mulL (k l : List Int) (x : Int) : ev (mulL k l) x = ev k x * ev l x := by
  unfold mulL
  rw [ev_mulOut x k l _ k.length (Nat.le_refl _) (by rw [List.length_replicate]; omega), ev_rep, List.take_length]
  omega
theorem ev_map_mul (x c : Int) (l : List Int) : ev (l.map fun a => a * c) x = ev l x * c := by
  have e : (l.map fun a => a * c) = psm c l := by
    unfold psm
    exact List.map_congr_left fun a _ => Int.mul_comm a c
  rw [e, ev_psm, Int.mul_comm]
theorem ev_map_neg (x : Int) (l : List Int) : ev (l.map fun a => -a) x = -ev l x := by
  have e : (l.map fun a => -a) = psm (-1) l := by
    unfold psm
    exact List.map_congr_left fun a _ => by omega
  rw [e, ev_psm]
  omega
theorem horner_ev (x : Int) (l : List Int) : ∀ n, n ≤ l.length → horner l x n = ev (l.drop (l.length - n)) x
  | 0, _ => by
    show (0 : Int) = _
    rw [Nat.sub_zero, List.drop_length]
    rfl
  | n + 1, h => by
    have ih := horner_ev x l n (by omega)
    have hi : l.length - 1 - n < l.length := by omega
    show horner l x n * x + l.getD (l.length - 1 - n) 0 = _
    rw [ih, show l.length - (n + 1) = l.length - 1 - n by omega, List.drop_eq_getElem_cons hi, show l.length - n = l.length - 1 - n + 1 by omega]
    rw [List.getD_eq_getElem?_getD, List.getElem?_eq_getElem hi]
    show _ = l[l.length - 1 - n] + x * ev _ x
    show _ * x + l[l.length - 1 - n] = _
    grind
/-! ### Taylor shifts -/
/-- one turn on a sequence of values -/
theorem shIn_spec (s : Int) (m : Nat) (l : List Int) (hm : l.length = m) (i : Nat) : ∀ n, n ≤ m - 1 - i → ∀ y : Int,
    (∀ t, t < m - 1 - n → (shIn s m n l).getD t 0 = l.getD t 0) ∧ ((shIn s m n l).getD (m - 1) 0 = l.getD (m - 1) 0) ∧
    ev (l.drop (m - 1 - n)) y = (shIn s m n l).getD (m - 1 - n) 0 + (y - s) * ev ((shIn s m n l).drop (m - 1 - n + 1)) y
  | 0, _, y => by
    refine ⟨fun _ _ => rfl, rfl, ?_⟩
    show ev (l.drop (m - 1 - 0)) y = l.getD (m - 1 - 0) 0 + (y - s) * ev (l.drop (m - 1 - 0 + 1)) y
    rw [Nat.sub_zero]
    rw [show l.drop (m - 1 + 1) = [] from List.drop_eq_nil_of_le (by omega)]
    by_cases h : m - 1 < l.length
    · rw [List.drop_eq_getElem_cons h, show l.drop (m - 1 + 1) = [] from List.drop_eq_nil_of_le (by omega), List.getD_eq_getElem?_getD, List.getElem?_eq_getElem h]
      show l[m - 1] + y * 0 = l[m - 1] + (y - s) * 0
      omega
    · rw [List.drop_eq_nil_of_le (by omega), getD_out (by omega)]
      show (0 : Int) = 0 + (y - s) * 0
      omega
  | n + 1, h, y => by
    obtain ⟨h1, h2, h3⟩ := shIn_spec s m l hm i n (by omega) y
    have hl := shIn_len s m l n
    have e : shIn s m (n + 1) l = (shIn s m n l).set (m - 2 - n) ((shIn s m n l).getD (m - 2 - n) 0 + s * (shIn s m n l).getD (m - 2 - n + 1) 0) := rfl
    have i1 : m - 1 - (n + 1) = m - 2 - n := by omega
    have i2 : m - 2 - n + 1 = m - 1 - n := by omega
    have hlt : m - 2 - n < l.length := by omega
    refine ⟨fun t ht => ?_, ?_, ?_⟩
    · rw [e, getD_set, if_neg (by omega)]
      exact h1 t (by omega)
    · rw [e, getD_set, if_neg (by omega)]
      exact h2
    · rw [i1, e, getD_set, if_pos rfl, if_pos (by rw [hl]; omega), List.drop_set_of_lt (by omega), i2, List.drop_eq_getElem_cons hlt, i2]
      have g : l[m - 2 - n] = (shIn s m n l).getD (m - 2 - n) 0 := by
        rw [h1 _ (by omega), List.getD_eq_getElem?_getD, List.getElem?_eq_getElem hlt]
        rfl
      show l[m - 2 - n] + y * ev (l.drop (m - 1 - n)) y = _
      have hlt2 : m - 1 - n < (shIn s m n l).length := by rw [hl]; omega
      have g2 : ev ((shIn s m n l).drop (m - 1 - n)) y = (shIn s m n l).getD (m - 1 - n) 0 + y * ev ((shIn s m n l).drop (m - 1 - n + 1)) y := by
        rw [List.drop_eq_getElem_cons hlt2, List.getD_eq_getElem?_getD, List.getElem?_eq_getElem hlt2]
        rfl
      rw [h3, g, g2]
      grind
theorem ev_split (x : Int) : ∀ (l : List Int) (n : Nat), n ≤ l.length → ev l x = ev (l.take n) x + x ^ n * ev (l.drop n) x
  | l, 0, _ => by
    rw [List.take_zero, List.drop_zero]
    show ev l x = 0 + x ^ 0 * ev l x
    grind
  | [], n + 1, h => by cases h
  | a :: l, n + 1, h => by
    show a + x * ev l x = (a + x * ev (l.take n) x) + x ^ (n + 1) * ev (l.drop n) x
    rw [ev_split x l n (by simpa using h), Int.pow_succ]
    grind
/-- after n turns: the first n in powers of x, the rest in powers of x + s -/
theorem shOut_spec (s x : Int) (m : Nat) (l : List Int) (hm : l.length = m) : ∀ n, n ≤ m - 1 → ev l (x + s) = ev ((shOut s m n l).take n) x + x ^ n * ev ((shOut s m n l).drop n) (x + s)
  | 0, _ => by
    show ev l (x + s) = ev (l.take 0) x + x ^ 0 * ev (l.drop 0) (x + s)
    rw [List.take_zero, List.drop_zero]
    show _ = 0 + _
    grind
  | n + 1, h => by
    have ih := shOut_spec s x m l hm n (by omega)
    have hl := shOut_len s m l n
    obtain ⟨h1, h2, h3⟩ := shIn_spec s m (shOut s m n l) (by rw [hl]; exact hm) n (m - 1 - n) (Nat.le_refl _) (x + s)
    have e : shOut s m (n + 1) l = shIn s m (m - 1 - n) (shOut s m n l) := rfl
    have i1 : m - 1 - (m - 1 - n) = n := by omega
    rw [i1] at h1 h3
    have et : (shIn s m (m - 1 - n) (shOut s m n l)).take n = (shOut s m n l).take n := by
      apply List.ext_getElem
      · rw [List.length_take, List.length_take, shIn_len]
      · intro t ht1 ht2
        have ht : t < n := by rw [List.length_take] at ht2; omega
        have g := h1 t ht
        rw [List.getElem_take, List.getElem_take]
        rw [List.length_take] at ht1 ht2
        rw [List.getD_eq_getElem?_getD, List.getD_eq_getElem?_getD, List.getElem?_eq_getElem (by omega), List.getElem?_eq_getElem (by omega)] at g
        exact g
    rw [ih, e, ev_take_succ, et, h3, Int.pow_succ]
    grind
theorem ev_shOut (s x : Int) (l : List Int) : ev (shOut s l.length (l.length - 1) l) x = ev l (x + s) := by
  have h := shOut_spec s x l.length l rfl (l.length - 1) (Nat.le_refl _)
  have hl := shOut_len s l.length l (l.length - 1)
  rw [h, ev_split x (shOut s l.length (l.length - 1) l) (l.length - 1) (by rw [hl]; omega)]
  congr 2
  by_cases h0 : l.length = 0
  · rw [List.drop_eq_nil_of_le (by omega)]; rfl
  · have hlt : l.length - 1 < (shOut s l.length (l.length - 1) l).length := by rw [hl]; omega
    rw [List.drop_eq_getElem_cons hlt, show (shOut s l.length (l.length - 1) l).drop (l.length - 1 + 1) = [] from List.drop_eq_nil_of_le (by omega)]
    show _ + x * 0 = _ + (x + s) * 0
    omega
/-! ### polynomials -/
section
variable {p q : Po} (x : Int)
theorem pv_add (hp : p.den ≠ 0) (hq : q.den ≠ 0) : pv (pAdd p q) x = pv p x + pv q x := by
  have e : pAdd p q = mkP ((List.range (max p.co.length q.co.length)).map fun i => (pad p.co (max p.co.length q.co.length)).getD i 0 * q.den + (pad q.co (max p.co.length q.co.length)).getD i 0 * p.den) (p.den * q.den) := rfl
  rw [e, pv_mkP _ (mul_ne hp hq)]
  have h : ev ((List.range (max p.co.length q.co.length)).map fun i => (pad p.co (max p.co.length q.co.length)).getD i 0 * q.den + (pad q.co (max p.co.length q.co.length)).getD i 0 * p.den) x = ev (padd (psm q.den p.co) (psm p.den q.co)) x := ev_of_coef (fun i => by
    rw [getD_rangeMap, getD_padd, getD_psm, getD_psm]
    split
    · rw [getD_pad, getD_pad]; grind
    · rw [getD_out (l := p.co) (by omega), getD_out (l := q.co) (by omega)]; omega) x
  rw [h, ev_padd, ev_psm, ev_psm]
  have h1 := den_ne hp
  have h2 := den_ne hq
  unfold pv
  push_cast
  grind
theorem pv_neg (hp : p.den ≠ 0) : pv (pNeg p) x = -pv p x := by
  unfold pNeg
  rw [pv_mkP _ hp, ev_map_neg]
  unfold pv
  push_cast
  grind
theorem pv_sub (hp : p.den ≠ 0) (hq : q.den ≠ 0) : pv (pSub p q) x = pv p x - pv q x := by
  unfold pSub
  rw [pv_add x hp (show (pNeg q).den ≠ 0 from (pok_mkP _ hq).ne), pv_neg x hq]
  grind
theorem pv_mul (hp : p.den ≠ 0) (hq : q.den ≠ 0) : pv (pMul p q) x = pv p x * pv q x := by
  unfold pMul
  rw [pv_mkP _ (mul_ne hp hq), ev_mulL]
  have h1 := den_ne hp
  have h2 := den_ne hq
  unfold pv
  push_cast
  grind
theorem pv_scaled {f : Fr} (hp : p.den ≠ 0) (hf : f.den ≠ 0) : pv (pScaled p f) x = pv p x * fv f := by
  unfold pScaled
  rw [pv_mkP _ (mul_ne hp hf), ev_map_mul]
  have h1 := den_ne hp
  have h2 := den_ne hf
  unfold pv fv
  push_cast
  grind
theorem pv_const {f : Fr} (hf : f.den ≠ 0) : pv (pConst f) x = fv f := by
  unfold pConst
  rw [pv_mkP _ hf]
  unfold fv
  have : ev [f.num] x = f.num := by show f.num + x * 0 = _; omega
  rw [this]
theorem pv_shift (hp : p.den ≠ 0) (s : Int) : pv (pShift p s) x = pv p (x + s) := by
  unfold pShift
  rw [pv_mkP _ hp, ev_shOut]
  rfl
theorem fv_at (hp : p.den ≠ 0) : fv (pAt p x) = pv p x := by
  unfold pAt
  rw [fv_mkF _ hp, horner_ev x p.co p.co.length (Nat.le_refl _), Nat.sub_self, List.drop_zero]
  rfl
end
theorem pok_add {p q : Po} (hp : p.den ≠ 0) (hq : q.den ≠ 0) : POk (pAdd p q) := pok_mkP _ (mul_ne hp hq)
theorem pok_neg {p : Po} (hp : p.den ≠ 0) : POk (pNeg p) := pok_mkP _ hp
theorem pok_sub {p q : Po} (hp : p.den ≠ 0) (hq : q.den ≠ 0) : POk (pSub p q) := pok_add hp (pok_neg hq).ne
theorem pok_mul {p q : Po} (hp : p.den ≠ 0) (hq : q.den ≠ 0) : POk (pMul p q) := pok_mkP _ (mul_ne hp hq)
theorem pok_scaled {p : Po} {f : Fr} (hp : p.den ≠ 0) (hf : f.den ≠ 0) : POk (pScaled p f) := pok_mkP _ (mul_ne hp hf)
theorem pok_shift {p : Po} (hp : p.den ≠ 0) (s : Int) : POk (pShift p s) := pok_mkP _ hp
theorem pok_p0 : POk p0 := pok_mkP _ (by decide)
theorem pok_p1 : POk p1 := pok_mkP _ (by decide)
theorem pv_p0 (x : Int) : pv p0 x = 0 := by
  unfold p0
  rw [pv_mkP _ (by decide)]
  show ((0 : Int) : Rat) / ((1 : Int) : Rat) = 0
  grind
theorem pv_p1 (x : Int) : pv p1 x = 1 := by
  unfold p1
  rw [pv_mkP _ (by decide)]
  have : ev [1] x = 1 := by show 1 + x * 0 = _; omega
  rw [this]
  grind
/-- zero: no coefficients -/
theorem pz_iff {p : Po} (h : POk p) : pZ p = true ↔ p = p0 := by
  unfold pZ
  constructor
  · intro e
    have e1 : p.co = [] := List.eq_nil_of_length_eq_zero (of_decide_eq_true e)
    refine pok_eq h pok_p0 fun i => ?_
    rw [e1]
    show (([] : List Int)).getD i 0 * _ = (([] : List Int)).getD i 0 * _
    simp
  · rintro rfl
    decide
theorem pz_false {p : Po} (h : POk p) (hz : pZ p = false) : Nz p.co := by
  have h0 : p.co.length ≠ 0 := of_decide_eq_false hz
  refine ⟨h0, ?_⟩
  rcases h.tr with e | e
  · rw [e] at h0; exact absurd rfl h0
  · exact e
theorem evt_pv_ne {p : Po} (h : POk p) (hz : pZ p = false) : Evt fun x => pv p x ≠ 0 := by
  have hn := pz_false h hz
  refine (evt_ne ⟨_, hn.2⟩).mono fun x hx => ?_
  have h1 := den_ne h.ne
  have h2 := den_ne hx
  unfold pv
  grind
end G
end
section
/-! Division: what the turns keep; exact division. -/
namespace G
theorem getD_subIn (place : Nat) (top : Int) (q r : List Int) : ∀ n, place + n ≤ r.length → ∀ j, (subIn place top q n r).getD j 0 = r.getD j 0 - if place ≤ j ∧ j < place + n then top * q.getD (j - place) 0 else 0
  | 0, _, j => by
    rw [if_neg (by omega)]
    show r.getD j 0 = _
    omega
  | n + 1, h, j => by
    have ih := getD_subIn place top q r n (by omega)
    show ((subIn place top q n r).set (place + n) ((subIn place top q n r).getD (place + n) 0 - top * q.getD n 0)).getD j 0 = _
    rw [getD_set]
    by_cases e : place + n = j
    · subst e
      have hl : place + n < (subIn place top q n r).length := by rw [subIn_len]; omega
      rw [if_pos rfl, if_pos hl, if_pos (by omega)]
      have := ih (place + n)
      rw [if_neg (by omega)] at this
      show (subIn place top q n r).getD (place + n) 0 - top * q.getD n 0 = _
      rw [this, show place + n - place = n by omega]
      omega
    · rw [if_neg e]
      have := ih j
      show (subIn place top q n r).getD j 0 = _
      rw [this]
      by_cases h1 : place ≤ j ∧ j < place + n
      · rw [if_pos h1, if_pos (by omega)]
      · rw [if_neg h1, if_neg (by omega)]
theorem ev_subIn (x : Int) (place : Nat) (top : Int) (q r : List Int) : ∀ n, place + n ≤ r.length → ev (subIn place top q n r) x = ev r x - top * x ^ place * ev (q.take n) x
  | 0, _ => by
    show ev r x = ev r x - top * x ^ place * ev (q.take 0) x
    rw [List.take_zero]
    show _ = _ - _ * 0
    omega
  | n + 1, h => by
    have ih := ev_subIn x place top q r n (by omega)
    show ev ((subIn place top q n r).set (place + n) ((subIn place top q n r).getD (place + n) 0 - top * q.getD n 0)) x = _
    rw [ev_setL x _ _ _ (by rw [subIn_len]; omega), ih, ev_take_succ, Int.pow_add]
    grind
theorem ev_dloop (x : Int) (p q : List Int) (hq : q.length ≠ 0) : ∀ n, n ≤ dlen p q → (dloop p q n).scale * ev p x = ev (dloop p q n).quo x * ev q x + ev (dloop p q n).rest x
  | 0, _ => by
    show 1 * ev p x = ev (List.replicate _ 0) x * ev q x + ev p x
    rw [ev_rep]; omega
  | n + 1, h => by
    have ih := ev_dloop x p q hq n (by omega)
    obtain ⟨l1, l2⟩ := dloop_len p q n
    have hpl : dlen p q - 1 - n + q.length ≤ p.length := by unfold dlen at h ⊢; omega
    have e : dloop p q (n + 1) = dstep q (dlen p q - 1 - n) (dloop p q n) := rfl
    rw [e]
    show (dloop p q n).scale * q.getD (q.length - 1) 0 * ev p x = ev (List.set ((dloop p q n).quo.map fun y => q.getD (q.length - 1) 0 * y) _ _) x * ev q x + ev (subIn _ _ q q.length ((dloop p q n).rest.map fun y => q.getD (q.length - 1) 0 * y)) x
    rw [ev_setL x _ _ _ (by rw [List.length_map]; omega), ev_subIn x _ _ _ _ _ (by rw [List.length_map]; omega), List.take_length]
    have m1 : ev ((dloop p q n).quo.map fun y => q.getD (q.length - 1) 0 * y) x = q.getD (q.length - 1) 0 * ev (dloop p q n).quo x := ev_psm _ _ _
    have m2 : ev ((dloop p q n).rest.map fun y => q.getD (q.length - 1) 0 * y) x = q.getD (q.length - 1) 0 * ev (dloop p q n).rest x := ev_psm _ _ _
    rw [m1, m2]
    grind
theorem rest_zero (p q : List Int) (hq : q.length ≠ 0) : ∀ n, n ≤ dlen p q → ∀ i, p.length - n ≤ i → (dloop p q n).rest.getD i 0 = 0
  | 0, _, i, hi => getD_out (by show p.length ≤ i; omega)
  | n + 1, h, i, hi => by
    have ih := rest_zero p q hq n (by omega)
    obtain ⟨l1, l2⟩ := dloop_len p q n
    have hpl : dlen p q - 1 - n + q.length = p.length - n := by unfold dlen at h ⊢; omega
    have hn : n < p.length := by unfold dlen at h; omega
    show (subIn (dlen p q - 1 - n) ((dloop p q n).rest.getD (dlen p q - 1 - n + q.length - 1) 0) q q.length ((dloop p q n).rest.map fun y => q.getD (q.length - 1) 0 * y)).getD i 0 = 0
    rw [getD_subIn _ _ _ _ _ (by rw [List.length_map]; omega), getD_mapZ (Int.mul_zero _)]
    by_cases h1 : p.length - n ≤ i
    · rw [ih i h1, if_neg (by omega)]; omega
    · have e1 : i = dlen p q - 1 - n + q.length - 1 := by omega
      rw [if_pos (by omega), show i - (dlen p q - 1 - n) = q.length - 1 by omega, e1]
      grind
theorem rest_end (p q : List Int) (hq : q.length ≠ 0) (i : Nat) (hi : q.length - 1 ≤ i) : (dloop p q (dlen p q)).rest.getD i 0 = 0 := by
  by_cases h : q.length ≤ p.length + 1
  · refine rest_zero p q hq (dlen p q) (Nat.le_refl _) i ?_
    unfold dlen
    omega
  · have e : dlen p q = 0 := by unfold dlen; omega
    rw [e]
    exact getD_out (by show p.length ≤ i; omega)
/-- the top of a product -/
theorem top_pml : ∀ (l m : List Int), l ≠ [] → m ≠ [] → (pml l m).getD (l.length + m.length - 2) 0 = l.getD (l.length - 1) 0 * m.getD (m.length - 1) 0
  | [], m, h, _ => absurd rfl h
  | [a], m, _, hm => by
    have hp : 0 < m.length := List.length_pos_iff.mpr hm
    show (padd (psm a m) (psh (pml [] m))).getD (1 + m.length - 2) 0 = a * _
    rw [getD_padd, getD_psm, show 1 + m.length - 2 = m.length - 1 by omega]
    show _ + (([] : List Int)).getD _ 0 = _
    simp
  | a :: b :: l, m, _, hm => by
    have hp : 0 < m.length := List.length_pos_iff.mpr hm
    have ih := top_pml (b :: l) m (by simp) hm
    show (padd (psm a m) (psh (pml (b :: l) m))).getD ((a :: b :: l).length + m.length - 2) 0 = _
    rw [getD_padd, getD_psm, getD_out (l := m) (by simp only [List.length_cons]; omega)]
    have hsh : ∀ (k : List Int) (i : Nat), (psh k).getD (i + 1) 0 = k.getD i 0 := fun k i => by
      cases k with
      | nil => simp [psh]
      | cons c k => simp [psh]
    have e : (a :: b :: l).length + m.length - 2 = ((b :: l).length + m.length - 2) + 1 := by simp only [List.length_cons]; omega
    have e2 : (a :: b :: l).getD ((a :: b :: l).length - 1) 0 = (b :: l).getD ((b :: l).length - 1) 0 := by simp
    rw [e, hsh, ih, e2]
    omega
/-- a multiple of q that is shorter than q is zero -/
theorem mult_zero {d q r : List Int} (hq : Nz q) (hr : ∀ i, q.length - 1 ≤ i → r.getD i 0 = 0) (h : Evt fun x => ev d x * ev q x = ev r x) : ∀ i, d.getD i 0 = 0 := by
  have hq0 : q ≠ [] := fun z => hq.1 (by rw [z]; rfl)
  have hp : 0 < q.length := List.length_pos_iff.mpr hq0
  rcases tr_trim d with e | e
  · intro i
    rw [← getD_trim, e]
    simp
  · exfalso
    have hd0 : trim d ≠ [] := fun z => by rw [z] at e; simp at e
    have hdp : 0 < (trim d).length := List.length_pos_iff.mpr hd0
    have h2 : Evt fun x => ev (pml (trim d) q) x = ev r x := h.mono fun x hx => by rw [ev_pml, ev_trim, hx]
    have h3 := coef_eq h2 ((trim d).length + q.length - 2)
    rw [top_pml _ _ hd0 hq0, hr _ (by omega)] at h3
    rcases Int.mul_eq_zero.mp h3 with z | z
    · exact e z
    · exact hq.2 z
/-- EXACT DIVISION -/
theorem exact_eq {p q : Po} {l : List Int} {D : Int} (hp : p.den ≠ 0) (hq : q.den ≠ 0) (hz : Nz q.co) (hD : D ≠ 0) (h : Evt fun x => pv p x = pv q x * ((ev l x : Rat) / (D : Rat))) : pExact p q = mkP l D := by
  have hs := dloop_scale (p := p.co) hz (dlen p.co q.co)
  have hsp : (dloop p.co q.co (dlen p.co q.co)).scale * p.den ≠ 0 := mul_ne hs hp
  have cr : Evt fun x => ev p.co x * (q.den * D) = ev q.co x * ev l x * p.den := h.mono fun x hx => by
    have h1 := den_ne hp
    have h2 := den_ne hq
    have h3 := den_ne hD
    unfold pv at hx
    have : (ev p.co x : Rat) * ((q.den : Rat) * (D : Rat)) = (ev q.co x : Rat) * (ev l x : Rat) * (p.den : Rat) := by grind
    exact_mod_cast this
  have hd := mult_zero (d := padd (psm ((dloop p.co q.co (dlen p.co q.co)).scale * p.den) l) (psm (-(q.den * D)) (dloop p.co q.co (dlen p.co q.co)).quo)) (r := psm (q.den * D) (dloop p.co q.co (dlen p.co q.co)).rest) hz
    (fun i hi => by rw [getD_psm, rest_end p.co q.co hz.1 i hi, Int.mul_zero])
    (cr.mono fun x hx => by
      have e := ev_dloop x p.co q.co hz.1 (dlen p.co q.co) (Nat.le_refl _)
      rw [ev_padd, ev_psm, ev_psm, ev_psm]
      grind)
  refine pv_eq (pok_mkP _ hsp) (pok_mkP _ hD) (Evt.all fun x => ?_)
  have hv : ev (padd (psm ((dloop p.co q.co (dlen p.co q.co)).scale * p.den) l) (psm (-(q.den * D)) (dloop p.co q.co (dlen p.co q.co)).quo)) x = 0 := ev_zero hd
  rw [ev_padd, ev_psm, ev_psm] at hv
  have ee : pExact p q = mkP ((dloop p.co q.co (dlen p.co q.co)).quo.map fun x => x * q.den) ((dloop p.co q.co (dlen p.co q.co)).scale * p.den) := rfl
  rw [ee, pv_mkP _ hsp, pv_mkP _ hD, ev_map_mul]
  have h1 := den_ne hsp
  have h3 := den_ne hD
  have hv2 : (((dloop p.co q.co (dlen p.co q.co)).scale * p.den : Int) : Rat) * (ev l x : Rat) = ((q.den : Rat) * (D : Rat)) * (ev (dloop p.co q.co (dlen p.co q.co)).quo x : Rat) := by
    have : (dloop p.co q.co (dlen p.co q.co)).scale * p.den * ev l x = (q.den * D) * ev (dloop p.co q.co (dlen p.co q.co)).quo x := by grind
    exact_mod_cast this
  generalize (((dloop p.co q.co (dlen p.co q.co)).scale * p.den : Int) : Rat) = S at *
  push_cast
  grind
end G
end
section
/-! Representations with bounds; the step of the elimination at a point. -/
namespace G
/-- a polynomial function: length + a <= b + 1 (or zero), norm at most N -/
def Rep (f : Int → Int) (a b N : Nat) : Prop := ∃ l : List Int, (l = [] ∨ l.length + a ≤ b + 1) ∧ nrm l ≤ N ∧ ∀ x, f x = ev l x
section
variable {f g : Int → Int} {a b c d N M : Nat}
theorem Rep.mono (h : Rep f a b N) (hN : N ≤ M) : Rep f a b M := by
  obtain ⟨l, h1, h2, h3⟩ := h
  exact ⟨l, h1, Nat.le_trans h2 hN, h3⟩
theorem rep_congr (h : Rep f a b N) (e : ∀ x, g x = f x) : Rep g a b N := by
  obtain ⟨l, h1, h2, h3⟩ := h
  exact ⟨l, h1, h2, fun x => (e x).trans (h3 x)⟩
theorem rep_zero : Rep (fun _ => 0) a b N := ⟨[], .inl rfl, Nat.zero_le _, fun _ => rfl⟩
theorem rep_add (hf : Rep f a b N) (hg : Rep g a b M) : Rep (fun x => f x + g x) a b (N + M) := by
  obtain ⟨l, h1, h2, h3⟩ := hf
  obtain ⟨m, g1, g2, g3⟩ := hg
  refine ⟨padd l m, ?_, Nat.le_trans (nrm_padd l m) (by omega), fun x => by show f x + g x = _; rw [ev_padd, h3, g3]⟩
  rcases h1 with rfl | h1
  · exact g1
  · rcases g1 with rfl | g1
    · right
      rw [len_padd]
      show max l.length 0 + a ≤ b + 1
      omega
    · right
      rw [len_padd]
      omega
theorem rep_mul (hf : Rep f a b N) (hg : Rep g c d M) : Rep (fun x => f x * g x) (a + c) (b + d) (N * M) := by
  obtain ⟨l, h1, h2, h3⟩ := hf
  obtain ⟨m, g1, g2, g3⟩ := hg
  refine ⟨pml l m, ?_, Nat.le_trans (nrm_pml l m) (Nat.mul_le_mul h2 g2), fun x => by show f x * g x = _; rw [ev_pml, h3, g3]⟩
  by_cases e1 : l = []
  · subst e1; exact .inl rfl
  · by_cases e2 : m = []
    · subst e2; exact .inl (pml_nil l)
    · right
      have := len_pml l m e1 e2
      have := h1.resolve_left e1
      have := g1.resolve_left e2
      omega
theorem rep_smul (s : Int) (hf : Rep f a b N) : Rep (fun x => s * f x) a b (s.natAbs * N) := by
  obtain ⟨l, h1, h2, h3⟩ := hf
  refine ⟨psm s l, ?_, by rw [nrm_psm]; exact Nat.mul_le_mul_left _ h2, fun x => by show s * f x = _; rw [ev_psm, h3]⟩
  rcases h1 with rfl | h1
  · exact .inl rfl
  · right; rw [len_psm]; exact h1
theorem rep_sum {f : Nat → Int → Int} : ∀ {n : Nat}, (∀ i, i < n → Rep (f i) a b N) → Rep (fun x => sumN n fun i => f i x) a b (n * N)
  | 0, _ => rep_zero
  | n + 1, h => by
    have ih := rep_sum (n := n) fun i hi => h i (by omega)
    rw [Nat.succ_mul]
    exact rep_add ih (h n (by omega))
end
def sumS (f : Nat → Nat) : Nat → Nat
  | 0 => 0
  | n + 1 => sumS f n + f n
theorem sumS_congr {f g : Nat → Nat} : ∀ {n : Nat}, (∀ i, i < n → f i = g i) → sumS f n = sumS g n
  | 0, _ => rfl
  | n + 1, h => by
    show sumS f n + f n = sumS g n + g n
    rw [sumS_congr (n := n) fun i hi => h i (by omega), h n (by omega)]
theorem sumS_skip (b : Nat → Nat) : ∀ (n j : Nat), j ≤ n → b j + sumS (fun k => b (skip j k)) n = sumS b (n + 1)
  | 0, j, h => by
    obtain rfl : j = 0 := by omega
    show b 0 + 0 = 0 + b 0
    omega
  | n + 1, j, h => by
    show b j + (sumS (fun k => b (skip j k)) n + b (skip j n)) = sumS b (n + 1) + b (n + 1)
    by_cases e : j = n + 1
    · subst e
      have h1 : sumS (fun k => b (skip (n + 1) k)) n = sumS b n := sumS_congr fun i hi => by unfold skip; rw [if_pos (by omega)]
      have h2 : skip (n + 1) n = n := by unfold skip; rw [if_pos (by omega)]
      rw [h1, h2]
      show _ = (sumS b n + b n) + b (n + 1)
      omega
    · have ih := sumS_skip b n j (by omega)
      have h2 : skip j n = n + 1 := by unfold skip; rw [if_neg (by omega)]
      rw [h2]
      omega
def factN : Nat → Nat
  | 0 => 1
  | n + 1 => (n + 1) * factN n
theorem rep_det (α : Nat → Nat) (N : Nat) : ∀ (r : Nat) (β : Nat → Nat) (M : Int → Mt), (∀ i j, i < r → j < r → Rep (fun x => M x i j) (α i) (β j) N) → Rep (fun x => det r (M x)) (sumS α r) (sumS β r) (factN r * N ^ r)
  | 0, β, M, _ => ⟨[1], .inr (by simp [sumS]), by show nrm [1] ≤ 1 * N ^ 0; simp [nrm], fun x => by show (1 : Int) = 1 + x * 0; omega⟩
  | r + 1, β, M, h => by
    have key : ∀ j, j < r + 1 → Rep (fun x => sg (r + j) * M x r j * det r (minor (M x) j)) (sumS α (r + 1)) (sumS β (r + 1)) (N * (factN r * N ^ r)) := fun j hj => by
      have ih := rep_det α N r (fun k => β (skip j k)) (fun x => minor (M x) j) fun i k hi hk => h i _ (by omega) (skip_lt hj hk)
      have h1 := rep_smul (sg (r + j)) (h r j (by omega) hj)
      have hs : (sg (r + j)).natAbs = 1 := by unfold sg; split <;> rfl
      rw [hs, Nat.one_mul] at h1
      have h2 := rep_mul h1 ih
      rw [sumS_skip β r j (by omega)] at h2
      have e : α r + sumS α r = sumS α (r + 1) := by show _ = sumS α r + α r; omega
      rw [e] at h2
      exact h2
    have := rep_sum (n := r + 1) key
    have e : (r + 1) * (N * (factN r * N ^ r)) = factN (r + 1) * N ^ (r + 1) := by
      show _ = (r + 1) * factN r * N ^ (r + 1)
      rw [Nat.pow_succ]
      grind
    rw [e] at this
    exact this
/-! ### the elimination at a point -/
def bord (B : Mt) (c i j : Nat) : Mt := fun i' k => B (if i' = c then i else i') (if k = c then j else k)
def dex (B : Mt) (c i j : Nat) : Int := if i < c then det c (colset B i fun k => B k j) else det (c + 1) (bord B c i j)
def Star (m w c : Nat) (B T : Mt) (p : Int) : Prop := ∀ i j, i < m → j < w → p * B i j = sumN c (fun a => B i a * T a j) + if c ≤ i then T i j else 0
section
variable {m w c : Nat} {B T : Mt} {p : Int}
/-- the numerators of the next turn -/
def Nu (T : Mt) (c a j : Nat) : Int := T c c * T a j - T a c * T c j
theorem star_nu (h : Star m w c B T p) (hc : c < m) (hw : c < w) {i j : Nat} (hi : i < m) (hj : j < w) :
    p * T c c * B i j = sumN c (fun a => B i a * Nu T c a j) + B i c * (p * T c j) + if c < i then Nu T c i j else 0 := by
  have h1 := h i j hi hj
  have h2 := h i c hi hw
  have e : sumN c (fun a => B i a * Nu T c a j) = T c c * sumN c (fun a => B i a * T a j) - T c j * sumN c (fun a => B i a * T a c) := by
    have e1 : sumN c (fun a => B i a * Nu T c a j) = sumN c fun a => T c c * (B i a * T a j) + -T c j * (B i a * T a c) := sumN_congr fun a _ => by unfold Nu; grind
    rw [e1, sumN_add, sumN_mul, sumN_mul]
    grind
  rw [e]
  by_cases hci : c < i
  · rw [if_pos (by omega)] at h1 h2
    rw [if_pos hci]
    unfold Nu
    grind
  · rw [if_neg hci]
    by_cases hce : c = i
    · subst hce
      rw [if_pos (by omega)] at h1 h2
      grind
    · rw [if_neg (by omega)] at h1 h2
      grind
theorem det_block (hd : T c c = det (c + 1) (bord B c c c)) : det (c + 1) B = T c c := by
  rw [hd]
  exact det_congr fun i j hi hj => by
    unfold bord
    have e1 : (if i = c then c else i) = i := by split <;> omega
    have e2 : (if j = c then c else j) = j := by split <;> omega
    rw [e1, e2]
/-- the numerators are p times the next minors -/
theorem nu_lt (h : Star m w c B T p) (hc : c < m) (hw : c < w) (hd : T c c = det (c + 1) (bord B c c c)) (h0 : T c c ≠ 0) {a j : Nat} (ha : a < c) (hj : j < w) : Nu T c a j = p * dex B (c + 1) a j := by
  have hb := det_block hd
  have cr := cramer (r := c + 1) (a := a) B (fun k => B k j) (fun k => if k = c then p * T c j else Nu T c k j) (p * T c c) (by omega) fun i hi => by
    have s := star_nu h hc hw (i := i) (by omega) hj
    rw [if_neg (by omega)] at s
    rw [s]
    show _ = sumN c (fun k => B i k * if k = c then p * T c j else Nu T c k j) + B i c * (if c = c then p * T c j else Nu T c c j)
    rw [if_pos rfl]
    have e : sumN c (fun k => B i k * if k = c then p * T c j else Nu T c k j) = sumN c fun k => B i k * Nu T c k j := sumN_congr fun k hk => by rw [if_neg (by omega)]
    rw [e]; omega
  rw [hb] at cr
  rw [if_neg (by omega)] at cr
  unfold dex
  rw [if_pos (by omega)]
  have : T c c * (p * det (c + 1) (colset B a fun k => B k j)) = T c c * Nu T c a j := by grind
  exact (Int.eq_of_mul_eq_mul_left h0 this).symm
theorem nu_gt (h : Star m w c B T p) (hc : c < m) (hw : c < w) (hd : T c c = det (c + 1) (bord B c c c)) (h0 : T c c ≠ 0) {i j : Nat} (hi : c < i) (him : i < m) (hj : j < w) : Nu T c i j = p * dex B (c + 1) i j := by
  have hb := det_block hd
  have s := schur (r := c + 1) (bord B (c + 1) i j) (fun k => if k = c then p * T c j else Nu T c k j) (p * T c c) (Nu T c i j) (fun i' hi' => by
    have s := star_nu h hc hw (i := i') (by omega) hj
    rw [if_neg (by omega)] at s
    have e1 : bord B (c + 1) i j i' (c + 1) = B i' j := by unfold bord; rw [if_neg (by omega), if_pos rfl]
    have e2 : ∀ k, k < c + 1 → bord B (c + 1) i j i' k = B i' k := fun k hk => by unfold bord; rw [if_neg (by omega), if_neg (by omega)]
    rw [e1, s]
    show _ = sumN c (fun k => bord B (c + 1) i j i' k * if k = c then p * T c j else Nu T c k j) + bord B (c + 1) i j i' c * (if c = c then p * T c j else Nu T c c j)
    rw [if_pos rfl, e2 c (by omega)]
    have e : sumN c (fun k => bord B (c + 1) i j i' k * if k = c then p * T c j else Nu T c k j) = sumN c fun k => B i' k * Nu T c k j := sumN_congr fun k hk => by rw [if_neg (by omega), e2 k (by omega)]
    rw [e]; omega) (by
    have s := star_nu h hc hw (i := i) him hj
    rw [if_pos hi] at s
    have e1 : bord B (c + 1) i j (c + 1) (c + 1) = B i j := by unfold bord; rw [if_pos rfl, if_pos rfl]
    have e2 : ∀ k, k < c + 1 → bord B (c + 1) i j (c + 1) k = B i k := fun k hk => by unfold bord; rw [if_pos rfl, if_neg (by omega)]
    rw [e1, s]
    show _ = sumN c (fun k => bord B (c + 1) i j (c + 1) k * if k = c then p * T c j else Nu T c k j) + bord B (c + 1) i j (c + 1) c * (if c = c then p * T c j else Nu T c c j) + _
    rw [if_pos rfl, e2 c (by omega)]
    have e : sumN c (fun k => bord B (c + 1) i j (c + 1) k * if k = c then p * T c j else Nu T c k j) = sumN c fun k => B i k * Nu T c k j := sumN_congr fun k hk => by rw [if_neg (by omega), e2 k (by omega)]
    rw [e])
  have e3 : det (c + 1) (bord B (c + 1) i j) = T c c := by
    rw [← hb]
    exact det_congr fun i' k hi' hk => by unfold bord; rw [if_neg (by omega), if_neg (by omega)]
  rw [e3] at s
  unfold dex
  rw [if_neg (by omega)]
  have : T c c * (p * det (c + 1 + 1) (bord B (c + 1) i j)) = T c c * Nu T c i j := by grind
  exact (Int.eq_of_mul_eq_mul_left h0 this).symm
theorem dex_mid (hd : T c c = det (c + 1) (bord B c c c)) (hj : T c j = det (c + 1) (bord B c c j)) : T c j = dex B (c + 1) c j := by
  unfold dex
  rw [if_pos (by omega), hj]
  exact det_congr fun i k hi hk => by
    unfold bord colset
    by_cases e : k = c
    · rw [if_pos e, if_pos e]
      have e1 : (if i = c then c else i) = i := by split <;> omega
      rw [e1]
    · rw [if_neg e, if_neg e]
      have e1 : (if i = c then c else i) = i := by split <;> omega
      rw [e1]
/-- the next turn -/
theorem star_step {T' : Mt} (h : Star m w c B T p) (hc : c < m) (hw : c < w) (hp : p ≠ 0) (h1 : ∀ j, j < w → T' c j = T c j) (h2 : ∀ a j, a < m → a ≠ c → j < w → p * T' a j = Nu T c a j) : Star m w (c + 1) B T' (T c c) := fun i j hi hj => by
  have s := star_nu h hc hw hi hj
  refine Int.eq_of_mul_eq_mul_left hp ?_
  show p * (T c c * B i j) = p * (sumN c (fun a => B i a * T' a j) + B i c * T' c j + if c + 1 ≤ i then T' i j else 0)
  have e : sumN c (fun a => B i a * Nu T c a j) = p * sumN c (fun a => B i a * T' a j) := by
    rw [← sumN_mul]
    exact sumN_congr fun a ha => by rw [← h2 a j (by omega) (by omega) hj]; grind
  rw [e] at s
  rw [h1 j hj]
  by_cases hci : c < i
  · rw [if_pos hci, ← h2 i j hi (by omega) hj] at s
    rw [if_pos (by omega)]
    grind
  · rw [if_neg hci] at s
    rw [if_neg (by omega)]
    grind
end
end G
end
section
/-! The elimination over the polynomials: each table holds minors. -/
namespace G
structure WhP (p : Po) : Prop where
  ok : POk p
  one : p.den = 1
theorem wh_mkP (l : List Int) : WhP (mkP l 1) := ⟨pok_mkP _ (by decide), by rw [mkP_one]⟩
theorem WhP.eq {p : Po} (h : WhP p) : p = mkP p.co 1 := pok_eq h.ok (pok_mkP _ (by decide)) fun i => by
  have := getD_mkP p.co (d := 1) (by decide) i
  rw [h.one]
  omega
theorem WhP.pv {p : Po} (h : WhP p) (x : Int) : pv p x = (ev p.co x : Rat) := by
  unfold G.pv
  rw [h.one]
  grind
theorem wh_p0 : WhP p0 := wh_mkP _
theorem wh_p1 : WhP p1 := wh_mkP _
theorem ev_mkP1 (l : List Int) (x : Int) : ev (mkP l 1).co x = ev l x := by
  rw [mkP_one]
  exact ev_trim l x
/-- bounds of a whole polynomial from a representation of its values -/
theorem rep_po {p : Po} {a b N : Nat} (h : WhP p) (hr : Rep (fun x => ev p.co x) a b N) : (p.co = [] ∨ p.co.length + a ≤ b + 1) ∧ nrm p.co ≤ N := by
  obtain ⟨l, h1, h2, h3⟩ := hr
  have hc : ∀ i, p.co.getD i 0 = l.getD i 0 := coef_eq (Evt.all h3)
  have hl := tr_len h.ok.tr hc
  refine ⟨?_, Nat.le_trans (nrm_le_of fun i => by rw [hc]; exact Nat.le_refl _) h2⟩
  rcases h1 with rfl | h1
  · left
    exact List.eq_nil_of_length_eq_zero (by simpa using hl)
  · right; omega
theorem lg_nrm {l : List Int} {k : Nat} (h : nrm l < 2 ^ (k + 1)) : ∀ c ∈ l, lg c ≤ k := fun c hc => lg_lt (Nat.lt_of_le_of_lt (natAbs_mem hc) h)
theorem wp_of {p : Po} {k L : Nat} (h : WhP p) (hn : nrm p.co < 2 ^ (k + 1)) (hl : p.co.length ≤ L) : WP k L p := ⟨h.one, lg_nrm hn, hl⟩
/-! ### the place of the pivot -/
theorem ppPN_spec (t : PM) (rank c : Nat) : ∀ n, (∀ k, ppPN t rank c n = some k → rank ≤ k ∧ k < rank + n ∧ pZ (pGet t k c) = false) ∧ (ppPN t rank c n = none → ∀ i, i < n → pZ (pGet t (rank + i) c) = true)
  | 0 => ⟨fun k e => (by cases e), fun _ i h => absurd h (by omega)⟩
  | n + 1 => by
    obtain ⟨h1, h2⟩ := ppPN_spec t rank c n
    have e : ppPN t rank c (n + 1) = ppStep t rank c n (ppPN t rank c n) := rfl
    rw [e]
    unfold ppStep
    by_cases hz : pZ (pGet t (rank + n) c) = true
    · rw [if_neg (by rw [hz]; simp)]
      refine ⟨fun k hk => ?_, fun hn i hi => ?_⟩
      · obtain ⟨a, b, d⟩ := h1 k hk
        exact ⟨a, by omega, d⟩
      · by_cases hin : i = n
        · subst hin; exact hz
        · exact h2 hn i (by omega)
    · have hz' : pZ (pGet t (rank + n) c) = false := by simpa using hz
      cases ho : ppPN t rank c n with
      | none =>
        rw [if_pos (by rw [hz']; rfl)]
        exact ⟨fun k hk => by cases hk; exact ⟨by omega, by omega, hz'⟩, fun hk => by cases hk⟩
      | some k0 =>
        by_cases hlt : (!pZ (pGet t (rank + n) c) && decide (pDeg (pGet t (rank + n) c) < pDeg (pGet t k0 c))) = true
        · rw [if_pos hlt]
          exact ⟨fun k hk => by cases hk; exact ⟨by omega, by omega, hz'⟩, fun hk => by cases hk⟩
        · rw [if_neg hlt]
          refine ⟨fun k hk => ?_, fun hk => by cases hk⟩
          cases hk
          obtain ⟨a, b, d⟩ := h1 k0 ho
          exact ⟨a, by omega, d⟩
theorem ppP_some {t : PM} {rank c k : Nat} (h : ppP t rank c = some k) : rank ≤ k ∧ k < t.length ∧ pZ (pGet t k c) = false := by
  obtain ⟨h1, h2, h3⟩ := (ppPN_spec t rank c _).1 k h
  exact ⟨h1, by omega, h3⟩
theorem ppP_none {t : PM} {rank c : Nat} (h : ppP t rank c = none) {i : Nat} (h1 : rank ≤ i) (h2 : i < t.length) : pZ (pGet t i c) = true := by
  have := (ppPN_spec t rank c _).2 h (i - rank) (by omega)
  rwa [show rank + (i - rank) = i by omega] at this
/-! ### the rows in another order -/
def sw (c pl i : Nat) : Nat := if i = c then pl else if i = pl then c else i
theorem sw_lt {c pl i m : Nat} (hc : c < m) (hp : pl < m) (hi : i < m) : sw c pl i < m := by unfold sw; split <;> (try split) <;> omega
theorem sw_inj {c pl i j : Nat} (h : sw c pl i = sw c pl j) : i = j := by unfold sw at h; split at h <;> split at h <;> (try split at h) <;> (try split at h) <;> omega
theorem sw_small {c pl i : Nat} (hp : c ≤ pl) (hi : i < c) : sw c pl i = i := by unfold sw; rw [if_neg (by omega), if_neg (by omega)]
theorem sw_big {c pl i : Nat} (hp : c ≤ pl) : c ≤ sw c pl i ↔ c ≤ i := by unfold sw; split <;> (try split) <;> omega
theorem dex_sw (B : Mt) {c pl i : Nat} (hp : c ≤ pl) (j : Nat) : dex (fun i k => B (sw c pl i) k) c i j = dex B c (sw c pl i) j := by
  unfold dex
  by_cases hi : i < c
  · rw [if_pos hi, sw_small hp hi, if_pos hi]
    exact det_congr fun i' k h1 h2 => by
      show (if k = i then B (sw c pl i') j else B (sw c pl i') k) = if k = i then B i' j else B i' k
      rw [sw_small hp h1]
  · rw [if_neg hi, if_neg (by have := sw_big (i := i) hp; omega)]
    exact det_congr fun i' k h1 h2 => by
      show B (sw c pl (if i' = c then i else i')) (if k = c then j else k) = B (if i' = c then sw c pl i else i') (if k = c then j else k)
      by_cases e : i' = c
      · rw [if_pos e, if_pos e]
      · rw [if_neg e, if_neg e, sw_small hp (show i' < c by omega)]
/-! ### the invariant -/
def Bx (T0 : PM) (ρ : Nat → Nat) (x : Int) : Mt := fun i j => ev (pGet T0 (ρ i) j).co x
def Tx' (t : PM) (x : Int) : Mt := fun i j => ev (pGet t i j).co x
structure PInv (T0 : PM) (m w c : Nat) (t : PM) (last : Po) (ρ : Nat → Nat) : Prop where
  len : t.length = m
  rl : ∀ i, i < m → (t.getD i []).length = w
  lt : ∀ i, i < m → ρ i < m
  inj : ∀ i j, i < m → j < m → ρ i = ρ j → i = j
  wh : ∀ i j, i < m → j < w → WhP (pGet t i j)
  ent : ∀ i j, i < m → j < w → ∀ x, ev (pGet t i j).co x = dex (Bx T0 ρ x) c i j
  lw : WhP last
  lz : pZ last = false
  lst : ∀ x, ev last.co x = det c (Bx T0 ρ x)
  star : Evt fun x => Star m w c (Bx T0 ρ x) (Tx' t x) (ev last.co x)
theorem pinv0 {T0 : PM} {m w : Nat} (hl : T0.length = m) (hr : ∀ i, i < m → (T0.getD i []).length = w) (hw : ∀ i j, i < m → j < w → WhP (pGet T0 i j)) : PInv T0 m w 0 T0 p1 id := by
  have hd : ∀ (x : Int) (i j : Nat), dex (Bx T0 id x) 0 i j = ev (pGet T0 i j).co x := fun x i j => by
    unfold dex
    rw [if_neg (by omega)]
    show sumN 1 _ = _
    show 0 + sg (0 + 0) * bord (Bx T0 id x) 0 i j 0 0 * 1 = _
    have e : bord (Bx T0 id x) 0 i j 0 0 = ev (pGet T0 i j).co x := rfl
    have s : sg (0 + 0) = 1 := rfl
    rw [e, s]
    omega
  refine ⟨hl, hr, fun i h => h, fun i j _ _ h => h, hw, fun i j _ _ x => (hd x i j).symm, wh_p1, by decide, fun x => ?_, Evt.all fun x i j hi hj => ?_⟩
  · show ev p1.co x = 1
    show (1 : Int) + x * 0 = 1
    omega
  · show ev p1.co x * ev (pGet T0 i j).co x = sumN 0 _ + if 0 ≤ i then ev (pGet T0 i j).co x else 0
    have : ev p1.co x = 1 := by show (1 : Int) + x * 0 = 1; omega
    rw [this, if_pos (Nat.zero_le _)]
    show _ = 0 + _
    omega
end G
end
section
/-! The step of the elimination, its bounds. -/
namespace G
structure T0Ok (T0 : PM) (m w : Nat) (α β : Nat → Nat) (N : Nat) : Prop where
  len : T0.length = m
  rl : ∀ i, i < m → (T0.getD i []).length = w
  wh : ∀ i j, i < m → j < w → WhP (pGet T0 i j)
  bd : ∀ i j, i < m → j < w → ((pGet T0 i j).co = [] ∨ (pGet T0 i j).co.length + α i ≤ β j + 1) ∧ nrm (pGet T0 i j).co ≤ N
  b5 : ∀ j, β j ≤ 5
  m6 : m ≤ 6
  w9 : w ≤ 9
  n0 : 1 ≤ N
  n47 : N ≤ 2 ^ 47
theorem sumS_le {f : Nat → Nat} {B : Nat} (h : ∀ k, f k ≤ B) : ∀ n, sumS f n ≤ n * B
  | 0 => Nat.zero_le _
  | n + 1 => by
    have := sumS_le h n
    have := h n
    show sumS f n + f n ≤ _
    rw [Nat.succ_mul]
    omega
section
variable {T0 : PM} {m w c : Nat} {α β : Nat → Nat} {N : Nat} {ρ : Nat → Nat} {t : PM} {last : Po}
theorem rep_entry (h : T0Ok T0 m w α β N) (hρ : ∀ i, i < m → ρ i < m) {i j : Nat} (hi : i < m) (hj : j < w) : Rep (fun x => Bx T0 ρ x i j) (α (ρ i)) (β j) N := by
  obtain ⟨h1, h2⟩ := h.bd (ρ i) j (hρ i hi) hj
  exact ⟨_, h1, h2, fun x => rfl⟩
theorem rep_dex1 (h : T0Ok T0 m w α β N) (hρ : ∀ i, i < m → ρ i < m) {i j : Nat} (hic : i < c) (hcm : c ≤ m) (hcw : c ≤ w) (hj : j < w) : Rep (fun x => dex (Bx T0 ρ x) c i j) (sumS (fun k => α (ρ k)) c) (sumS (fun k => if k = i then β j else β k) c) (factN c * N ^ c) := by
  have := rep_det (fun k => α (ρ k)) N c (fun k => if k = i then β j else β k) (fun x => colset (Bx T0 ρ x) i fun k => Bx T0 ρ x k j) fun a b ha hb => by
    by_cases e : b = i
    · refine rep_congr (f := fun x => Bx T0 ρ x a j) ?_ fun x => by unfold colset; rw [if_pos e]
      rw [if_pos e]
      exact rep_entry h hρ (by omega) hj
    · refine rep_congr (f := fun x => Bx T0 ρ x a b) ?_ fun x => by unfold colset; rw [if_neg e]
      rw [if_neg e]
      exact rep_entry h hρ (by omega) (by omega)
  exact rep_congr this fun x => by unfold dex; rw [if_pos hic]
theorem rep_dex2 (h : T0Ok T0 m w α β N) (hρ : ∀ i, i < m → ρ i < m) {i j : Nat} (hic : c ≤ i) (him : i < m) (hcw : c ≤ w) (hj : j < w) : Rep (fun x => dex (Bx T0 ρ x) c i j) (sumS (fun k => α (ρ (if k = c then i else k))) (c + 1)) (sumS (fun k => β (if k = c then j else k)) (c + 1)) (factN (c + 1) * N ^ (c + 1)) := by
  have := rep_det (fun k => α (ρ (if k = c then i else k))) N (c + 1) (fun k => β (if k = c then j else k)) (fun x => bord (Bx T0 ρ x) c i j) fun a b ha hb => by
    refine rep_congr (f := fun x => Bx T0 ρ x (if a = c then i else a) (if b = c then j else b)) ?_ fun x => rfl
    exact rep_entry h hρ (by split <;> omega) (by split <;> omega)
  exact rep_congr this fun x => by unfold dex; rw [if_neg (by omega)]
theorem factN_le : ∀ k, k ≤ 7 → factN k ≤ 5040 := by decide
theorem nrm_big {k : Nat} (hk : k ≤ 7) (h0 : 1 ≤ N) (hN : N ≤ 2 ^ 47) : factN k * N ^ k < 2 ^ 400 := by
  have h1 := factN_le k hk
  have h2 : N ^ k ≤ (2 ^ 47) ^ 7 := Nat.le_trans (Nat.pow_le_pow_right h0 hk) (Nat.pow_le_pow_left hN 7)
  exact Nat.lt_of_le_of_lt (Nat.mul_le_mul h1 h2) (by decide)
/-- each minor: a list of at most 41, small -/
theorem dex_list (h : T0Ok T0 m w α β N) (hρ : ∀ i, i < m → ρ i < m) {i j : Nat} (hcm : c ≤ m) (hcw : c ≤ w) (hi : i < m) (hj : j < w) : ∃ l : List Int, l.length ≤ 41 ∧ nrm l < 2 ^ 400 ∧ ∀ x, dex (Bx T0 ρ x) c i j = ev l x := by
  have hm6 := h.m6
  by_cases hic : i < c
  · obtain ⟨l, h1, h2, h3⟩ := rep_dex1 h hρ hic hcm hcw hj
    refine ⟨l, ?_, Nat.lt_of_le_of_lt h2 (nrm_big (by omega) h.n0 h.n47), h3⟩
    have hb := sumS_le (f := fun k => if k = i then β j else β k) (B := 5) (fun k => by
      have h1 := h.b5 j
      have h2 := h.b5 k
      show (if k = i then β j else β k) ≤ 5
      split <;> omega) c
    rcases h1 with rfl | h1
    · exact Nat.zero_le _
    · omega
  · obtain ⟨l, h1, h2, h3⟩ := rep_dex2 h hρ (by omega : c ≤ i) hi hcw hj
    refine ⟨l, ?_, Nat.lt_of_le_of_lt h2 (nrm_big (by omega) h.n0 h.n47), h3⟩
    have hb := sumS_le (f := fun k => β (if k = c then j else k)) (B := 5) (fun k => h.b5 _) (c + 1)
    rcases h1 with rfl | h1
    · exact Nat.zero_le _
    · omega
theorem po_of_list {p : Po} {l : List Int} (h : WhP p) (he : ∀ x, ev p.co x = ev l x) (hl : l.length ≤ 41) (hn : nrm l < 2 ^ 400) : WP 400 41 p := by
  have hc : ∀ i, p.co.getD i 0 = l.getD i 0 := coef_eq (Evt.all he)
  refine (wp_of (k := 399) h (Nat.lt_of_le_of_lt (nrm_le_of fun i => by rw [hc]; exact Nat.le_refl _) hn) (Nat.le_trans (tr_len h.ok.tr hc) hl)).mono (by decide) (Nat.le_refl _)
theorem pinv_wp (h : T0Ok T0 m w α β N) (I : PInv T0 m w c t last ρ) (hcm : c ≤ m) (hcw : c ≤ w) {i j : Nat} (hi : i < m) (hj : j < w) : WP 400 41 (pGet t i j) := by
  obtain ⟨l, h1, h2, h3⟩ := dex_list h I.lt hcm hcw hi hj
  exact po_of_list (I.wh i j hi hj) (fun x => (I.ent i j hi hj x).trans (h3 x)) h1 h2
theorem pinv_last (h : T0Ok T0 m w α β N) (I : PInv T0 m w c t last ρ) (hcm : c ≤ m) (hcw : c ≤ w) : WP 400 41 last := by
  have hm6 := h.m6
  obtain ⟨l, h1, h2, h3⟩ := rep_det (fun k => α (ρ k)) N c β (fun x => Bx T0 ρ x) fun a b ha hb => rep_entry h I.lt (by omega) (by omega)
  refine po_of_list I.lw (fun x => (I.lst x).trans (h3 x)) ?_ (Nat.lt_of_le_of_lt h2 (nrm_big (by omega) h.n0 h.n47))
  have hb := sumS_le (f := β) (B := 5) h.b5 c
  rcases h1 with rfl | h1
  · exact Nat.zero_le _
  · omega
end
theorem getD_set' {α : Type} (l : List α) (i j : Nat) (v d : α) (hi : i < l.length) : (l.set i v).getD j d = if j = i then v else l.getD j d := by
  rw [List.getD_eq_getElem?_getD, List.getD_eq_getElem?_getD]
  by_cases e : i = j
  · subst e
    rw [if_pos rfl, List.getElem?_set_self hi]; rfl
  · rw [if_neg (fun z => e z.symm), List.getElem?_set_ne e]
theorem getD_rangeM {α : Type} (n : Nat) (f : Nat → α) (i : Nat) (d : α) (h : i < n) : ((List.range n).map f).getD i d = f i := by
  rw [List.getD_eq_getElem?_getD, List.getElem?_map, List.getElem?_range h]
  rfl
section
variable {T0 : PM} {m w c pl : Nat} {α β : Nat → Nat} {N : Nat} {ρ : Nat → Nat} {t : PM} {last : Po}
theorem swrow (hc : c < t.length) (hp : pl < t.length) (i : Nat) (hi : i ≠ c) : (t.set pl (t.getD c [])).getD i [] = t.getD (sw c pl i) [] := by
  rw [getD_set' _ _ _ _ _ hp]
  unfold sw
  rw [if_neg hi]
  split <;> rfl
theorem wp_mem {a L : Nat} {l : List Po} (h : ∀ j, j < l.length → WP a L (l.getD j p0)) : ∀ p ∈ l, WP a L p := fun p hp => by
  obtain ⟨j, hj, rfl⟩ := List.getElem_of_mem hp
  have := h j hj
  rwa [List.getD_eq_getElem?_getD, List.getElem?_eq_getElem hj] at this
theorem el_ok (h : T0Ok T0 m w α β N) (I : PInv T0 m w c t last ρ) (hcm : c < m) (hcw : c < w) (hpl : pl < m) : ClOk t c pl c last := by
  have hm6 := h.m6
  have hw9 := h.w9
  have hlen := I.len
  have row : ∀ a, a < m → ∀ p ∈ t.getD a [], WP 400 41 p := fun a ha => wp_mem fun j hj => by
    rw [I.rl a ha] at hj
    exact pinv_wp h I (by omega) (by omega) ha hj
  have hlz := pz_false I.lw.ok I.lz
  have hlw := pinv_last h I (by omega) (by omega)
  refine ⟨by omega, by omega, by omega, fun i hi hic => ?_⟩
  have hs : sw c pl i < m := sw_lt hcm hpl (by omega)
  rw [swrow (by omega) (by omega) i hic]
  have r1 := row _ hs
  have r2 := row _ hpl
  have g1 : ∀ j, WP 400 41 ((t.getD (sw c pl i) []).getD j p0) := wp_getD r1
  have g2 : ∀ j, WP 400 41 ((t.getD pl []).getD j p0) := wp_getD r2
  refine ⟨⟨400, 41, fun p hp => (r1 p hp).z, fun p hp => (r2 p hp).z, by decide, by decide⟩, by rw [I.rl _ hs]; exact hcw, by rw [I.rl _ hs, I.rl _ hpl]; exact Nat.le_refl _, by rw [I.rl _ hs]; omega, fun j hj => ?_⟩
  have z1 := wp_mul (g2 c) (g1 j)
  have z2 := wp_mul (g1 c) (g2 j)
  have z3 := wp_add z1 (wp_neg z2)
  refine ⟨843, 0, 400, 0, z3.s2, hlw.s2, hlz, ?_, Nat.le_trans z3.2.2 (by decide), Nat.le_trans hlw.2.2 (by decide)⟩
  have hd : dlen (eNum (t.getD (sw c pl i) []) (t.getD pl []) c j).co last.co ≤ 83 := by
    have hz3 := z3.2.2
    unfold dlen
    have : (eNum (t.getD (sw c pl i) []) (t.getD pl []) c j).co.length ≤ 82 := hz3
    omega
  have := Nat.mul_le_mul_right (400 + 2) hd
  omega
end
end G
end
section
/-! The elimination keeps its invariant. -/
namespace G
section
variable {T0 : PM} {m w c pl : Nat} {α β : Nat → Nat} {N : Nat} {ρ : Nat → Nat} {t : PM} {last : Po}
theorem clP_len (t : PM) (c pl : Nat) (last : Po) : (clP t c pl c last).length = t.length := by unfold clP; rw [List.length_map, List.length_range]
theorem clP_row (t : PM) (c pl : Nat) (last : Po) {i : Nat} (hi : i < t.length) : (clP t c pl c last).getD i [] = clPRow t c pl c last i := by
  unfold clP
  exact getD_rangeM _ _ _ _ hi
theorem pinv_rows (I : PInv T0 m w c t last ρ) (hcm : c < m) (hpl : pl < m) {i : Nat} (hi : i < m) : ((clP t c pl c last).getD i []).length = w := by
  have hl := I.len
  rw [clP_row t c pl last (by omega)]
  unfold clPRow
  split
  · exact I.rl pl hpl
  · rename_i hic
    unfold elimR
    rw [List.length_map, List.length_range, swrow (by omega) (by omega) i hic]
    exact I.rl _ (sw_lt hcm hpl hi)
theorem clP_get_c (I : PInv T0 m w c t last ρ) (hcm : c < m) (j : Nat) : pGet (clP t c pl c last) c j = pGet t pl j := by
  have hl := I.len
  unfold pGet
  rw [clP_row t c pl last (by omega)]
  unfold clPRow
  rw [if_pos rfl]
theorem clP_get (I : PInv T0 m w c t last ρ) (hcm : c < m) (hpl : pl < m) {i j : Nat} (hi : i < m) (hj : j < w) (hic : i ≠ c) : pGet (clP t c pl c last) i j = pExact (eNum (t.getD (sw c pl i) []) (t.getD pl []) c j) last := by
  have hl := I.len
  unfold pGet
  rw [clP_row t c pl last (by omega)]
  unfold clPRow
  rw [if_neg hic, swrow (by omega) (by omega) i hic]
  unfold elimR
  rw [getD_rangeM _ _ _ _ (by rw [I.rl _ (sw_lt hcm hpl hi)]; exact hj)]
theorem sw_c (c pl : Nat) : sw c pl c = pl := by unfold sw; rw [if_pos rfl]
/-- the swapped tables -/
theorem star_sw {x : Int} (hcm : c < m) (hcp : c ≤ pl) (hpl : pl < m) (s : Star m w c (Bx T0 ρ x) (Tx' t x) (ev last.co x)) : Star m w c (Bx T0 (fun i => ρ (sw c pl i)) x) (fun i j => Tx' t x (sw c pl i) j) (ev last.co x) := fun i j hi hj => by
  have h := s (sw c pl i) j (sw_lt hcm hpl hi) hj
  have e : sumN c (fun a => Bx T0 (fun i => ρ (sw c pl i)) x i a * Tx' t x (sw c pl a) j) = sumN c fun a => Bx T0 ρ x (sw c pl i) a * Tx' t x a j := sumN_congr fun a ha => by
    rw [sw_small hcp ha]
    rfl
  show ev last.co x * Bx T0 ρ x (sw c pl i) j = sumN c (fun a => Bx T0 (fun i => ρ (sw c pl i)) x i a * Tx' t x (sw c pl a) j) + if c ≤ i then Tx' t x (sw c pl i) j else 0
  rw [e, h]
  congr 1
  by_cases hci : c ≤ i
  · rw [if_pos hci, if_pos ((sw_big hcp).mpr hci)]
  · rw [if_neg hci, if_neg fun z => hci ((sw_big hcp).mp z)]
theorem pinv_step (h : T0Ok T0 m w α β N) (I : PInv T0 m w c t last ρ) (e : ppP t c c = some pl) (hcw : c < w) : PInv T0 m w (c + 1) (clP t c pl c last) (pGet (clP t c pl c last) c c) (fun i => ρ (sw c pl i)) := by
  obtain ⟨hcp, hplt, hz⟩ := ppP_some e
  have hlen := I.len
  have hpl : pl < m := by omega
  have hcm : c < m := by omega
  have hρ' : ∀ i, i < m → ρ (sw c pl i) < m := fun i hi => I.lt _ (sw_lt hcm hpl hi)
  -- values of the swapped table
  have ent' : ∀ i j, i < m → j < w → ∀ x, Tx' t x (sw c pl i) j = dex (Bx T0 (fun i => ρ (sw c pl i)) x) c i j := fun i j hi hj x => by
    have h1 := I.ent (sw c pl i) j (sw_lt hcm hpl hi) hj x
    have h2 := dex_sw (Bx T0 ρ x) (i := i) hcp j
    exact h1.trans h2.symm
  have hdj : ∀ j, j < w → ∀ x, Tx' t x (sw c pl c) j = det (c + 1) (bord (Bx T0 (fun i => ρ (sw c pl i)) x) c c j) := fun j hj x => by
    rw [ent' c j hcm hj x]
    unfold dex
    rw [if_neg (by omega)]
  have hd := fun x => hdj c hcw x
  -- eventually
  have hzv : Evt fun x => ev (pGet t pl c).co x ≠ 0 := evt_ne ⟨_, (pz_false (I.wh pl c hpl hcw).ok hz).2⟩
  have hlv : Evt fun x => ev last.co x ≠ 0 := evt_ne ⟨_, (pz_false I.lw.ok I.lz).2⟩
  have good := (hzv.and hlv).and I.star
  have nu : Evt fun x => ∀ i, i < m → i ≠ c → ∀ j, j < w → Nu (fun i j => Tx' t x (sw c pl i) j) c i j = ev last.co x * dex (Bx T0 (fun i => ρ (sw c pl i)) x) (c + 1) i j := good.mono fun x ⟨⟨g1, g2⟩, g3⟩ i hi hic j hj => by
    have s := star_sw hcm hcp hpl g3
    have g1' : Tx' t x (sw c pl c) c ≠ 0 := by rw [sw_c]; exact g1
    rcases Nat.lt_or_ge i c with hlt | hge
    · exact nu_lt s hcm hcw (hd x) g1' hlt hj
    · exact nu_gt s hcm hcw (hd x) g1' (by omega) hi hj
  have lz' := pz_false I.lw.ok I.lz
  have ex : ∀ i j, i < m → j < w → i ≠ c → ∃ l : List Int, pGet (clP t c pl c last) i j = mkP l 1 ∧ ∀ x, ev l x = dex (Bx T0 (fun i => ρ (sw c pl i)) x) (c + 1) i j := fun i j hi hj hic => by
    obtain ⟨l, _, _, h3⟩ := dex_list h (ρ := fun i => ρ (sw c pl i)) (c := c + 1) hρ' (by omega) (by omega) hi hj
    refine ⟨l, ?_, fun x => (h3 x).symm⟩
    rw [clP_get I hcm hpl hi hj hic]
    have wr : ∀ a b, a < m → b < w → WhP ((t.getD a []).getD b p0) := fun a b ha hb => I.wh a b ha hb
    have hs := sw_lt hcm hpl hi
    have k1 := wr pl c hpl hcw
    have k2 := wr (sw c pl i) j hs hj
    have k3 := wr (sw c pl i) c hs hcw
    have k4 := wr pl j hpl hj
    have m1 := pok_mul k1.ok.ne k2.ok.ne
    have m2 := pok_mul k3.ok.ne k4.ok.ne
    refine exact_eq (pok_sub m1.ne m2.ne).ne I.lw.ok.ne lz' (by decide) (nu.mono fun x hx => ?_)
    have hn := hx i hi hic j hj
    rw [h3 x] at hn
    show pv (pSub (pMul ((t.getD pl []).getD c p0) ((t.getD (sw c pl i) []).getD j p0)) (pMul ((t.getD (sw c pl i) []).getD c p0) ((t.getD pl []).getD j p0))) x = _
    rw [pv_sub x m1.ne m2.ne, pv_mul x k1.ok.ne k2.ok.ne, pv_mul x k3.ok.ne k4.ok.ne, k1.pv, k2.pv, k3.pv, k4.pv, I.lw.pv]
    have hn2 : ev (pGet t pl c).co x * ev (pGet t (sw c pl i) j).co x - ev (pGet t (sw c pl i) c).co x * ev (pGet t pl j).co x = ev last.co x * ev l x := by
      have : Nu (fun i j => Tx' t x (sw c pl i) j) c i j = ev (pGet t (sw c pl c) c).co x * ev (pGet t (sw c pl i) j).co x - ev (pGet t (sw c pl i) c).co x * ev (pGet t (sw c pl c) j).co x := rfl
      rw [sw_c] at this
      rw [← this]; exact hn
    have hn3 : (ev (pGet t pl c).co x : Rat) * (ev (pGet t (sw c pl i) j).co x : Rat) - (ev (pGet t (sw c pl i) c).co x : Rat) * (ev (pGet t pl j).co x : Rat) = (ev last.co x : Rat) * (ev l x : Rat) := by exact_mod_cast hn2
    show (ev (pGet t pl c).co x : Rat) * (ev (pGet t (sw c pl i) j).co x : Rat) - (ev (pGet t (sw c pl i) c).co x : Rat) * (ev (pGet t pl j).co x : Rat) = _
    rw [hn3]
    grind
  have wh' : ∀ i j, i < m → j < w → WhP (pGet (clP t c pl c last) i j) := fun i j hi hj => by
    by_cases hic : i = c
    · subst hic; rw [clP_get_c I hcm]; exact I.wh pl j hpl hj
    · obtain ⟨l, h1, _⟩ := ex i j hi hj hic
      rw [h1]; exact wh_mkP l
  have ent2 : ∀ i j, i < m → j < w → ∀ x, ev (pGet (clP t c pl c last) i j).co x = dex (Bx T0 (fun i => ρ (sw c pl i)) x) (c + 1) i j := fun i j hi hj x => by
    by_cases hic : i = c
    · subst hic
      rw [clP_get_c I hcm]
      have := dex_mid (B := Bx T0 (fun k => ρ (sw i pl k)) x) (T := fun a b => Tx' t x (sw i pl a) b) (hd x) (hdj j hj x)
      rw [← this]
      show _ = Tx' t x (sw i pl i) j
      rw [sw_c]; rfl
    · obtain ⟨l, h1, h2⟩ := ex i j hi hj hic
      rw [h1, ev_mkP1, h2]
  refine ⟨(clP_len t c pl last).trans hlen, fun i hi => pinv_rows I hcm hpl hi, hρ', fun i j hi hj e => sw_inj (I.inj _ _ (sw_lt hcm hpl hi) (sw_lt hcm hpl hj) e), wh', ent2, wh' c c hcm hcw, ?_, fun x => ?_, ?_⟩
  · rw [clP_get_c I hcm]; exact hz
  · rw [clP_get_c I hcm]
    have := det_block (B := Bx T0 (fun i => ρ (sw c pl i)) x) (T := fun i j => Tx' t x (sw c pl i) j) (hd x)
    rw [this]
    show _ = Tx' t x (sw c pl c) c
    rw [sw_c]; rfl
  · refine (good.and nu).mono fun x ⟨⟨⟨g1, g2⟩, g3⟩, g4⟩ => ?_
    have s := star_sw hcm hcp hpl g3
    have st := star_step (T' := Tx' (clP t c pl c last) x) s hcm hcw g2 (fun j hj => ?_) fun a j ha hac hj => ?_
    · rw [clP_get_c I hcm]
      have e : (fun i j => Tx' t x (sw c pl i) j) c c = ev (pGet t pl c).co x := by
        show Tx' t x (sw c pl c) c = _
        rw [sw_c]; rfl
      rw [← e]
      exact st
    · show ev (pGet (clP t c pl c last) c j).co x = Tx' t x (sw c pl c) j
      rw [clP_get_c I hcm, sw_c]; rfl
    · rw [g4 a ha hac j hj]
      show _ * ev (pGet (clP t c pl c last) a j).co x = _
      rw [ent2 a j ha hj]
end
end G
end
section
/-! The run of the elimination; the kernel vector. -/
namespace G
theorem sw_sw {c pl i : Nat} : sw c pl (sw c pl i) = i := by unfold sw; split <;> split <;> (try split) <;> (try split) <;> omega
def Sur (m : Nat) (ρ : Nat → Nat) : Prop := ∀ e, e < m → ∃ i, i < m ∧ ρ i = e
section
variable {rows : PM} {m w : Nat} {α β : Nat → Nat} {N : Nat}
theorem pk_run (h : T0Ok (rows.map pRow) m w α β N) : ∀ c, c ≤ w → (∀ i, i < c → ∃ pl, ppP (pkN rows i).t i i = some pl) → c ≤ m ∧ ∃ ρ, Sur m ρ ∧ PInv (rows.map pRow) m w c (pkN rows c).t (pkN rows c).last ρ
  | 0, _, _ => ⟨Nat.zero_le _, id, fun e he => ⟨e, he, rfl⟩, pinv0 h.len h.rl h.wh⟩
  | c + 1, hc, hs => by
    obtain ⟨_, ρ, hsur, I⟩ := pk_run h c (by omega) fun i hi => hs i (by omega)
    obtain ⟨pl, e⟩ := hs c (by omega)
    obtain ⟨h1, h2, _⟩ := ppP_some e
    have hl := I.len
    have es : pkN rows (c + 1) = ⟨clP (pkN rows c).t c pl c (pkN rows c).last, pGet (clP (pkN rows c).t c pl c (pkN rows c).last) c c⟩ := by
      show pkStep c (pkN rows c) = _
      unfold pkStep
      rw [e]
    refine ⟨by omega, fun i => ρ (sw c pl i), fun e he => ?_, ?_⟩
    · obtain ⟨i, hi, hρ⟩ := hsur e he
      exact ⟨sw c pl i, sw_lt (by omega) (by omega) hi, by show ρ (sw c pl (sw c pl i)) = e; rw [sw_sw]; exact hρ⟩
    · rw [es]
      exact pinv_step h I e (by omega)
theorem pk_cl (h : T0Ok (rows.map pRow) m w α β N) {c : Nat} (hc : c < w) (hs : ∀ i, i < c → ∃ pl, ppP (pkN rows i).t i i = some pl) {pl : Nat} (e : ppP (pkN rows c).t c c = some pl) : ClOk (pkN rows c).t c pl c (pkN rows c).last := by
  obtain ⟨_, ρ, _, I⟩ := pk_run h c (by omega) hs
  obtain ⟨h1, h2, _⟩ := ppP_some e
  have hl := I.len
  exact el_ok h I (by omega) hc (by omega)
end
theorem kvPIn_get (t : PM) (c : Nat) (v : List Po) : ∀ n, n ≤ v.length → ∀ j, (kvPIn t c n v).getD j p0 = if j < n then pNeg (pGet t j c) else v.getD j p0
  | 0, _, j => by rw [if_neg (by omega)]; rfl
  | n + 1, h, j => by
    have ih := kvPIn_get t c v n (by omega) j
    show ((kvPIn t c n v).set n (pNeg (pGet t n c))).getD j p0 = _
    rw [getD_set' _ _ _ _ _ (by rw [kvPIn_len']; omega), ih]
    by_cases e : j = n
    · subst e; rw [if_pos rfl, if_pos (by omega)]
    · rw [if_neg e]
      by_cases hj : j < n
      · rw [if_pos hj, if_pos (by omega)]
      · rw [if_neg hj, if_neg (by omega)]
theorem kvP0_get (t : PM) {c w : Nat} (last : Po) (hcw : c < w) (j : Nat) : (kvP0 t c last w).getD j p0 = if j < c then pNeg (pGet t j c) else if j = c then last else p0 := by
  unfold kvP0
  rw [kvPIn_get _ _ _ _ (by rw [List.length_set, List.length_replicate]; omega), getD_set' _ _ _ _ _ (by rw [List.length_replicate]; exact hcw), rep_getDP]
theorem kvP0_len (t : PM) (c w : Nat) (last : Po) : (kvP0 t c last w).length = w := by
  unfold kvP0
  rw [kvPIn_len', List.length_set, List.length_replicate]
theorem wh_neg {p : Po} (h : WhP p) : WhP (pNeg p) := by
  unfold pNeg
  rw [h.one]
  exact wh_mkP _
theorem ev_neg' {p : Po} (h : WhP p) (x : Int) : ev (pNeg p).co x = -ev p.co x := by
  unfold pNeg
  rw [h.one, ev_mkP1, ev_map_neg]
theorem ev_pz {p : Po} (h : pZ p = true) (x : Int) : ev p.co x = 0 := by
  have e1 : p.co = [] := List.eq_nil_of_length_eq_zero (of_decide_eq_true h)
  rw [e1]; rfl
theorem sumN_split (f : Nat → Int) {a b : Nat} (h : a ≤ b) (hz : ∀ i, a ≤ i → i < b → f i = 0) : sumN b f = sumN a f := by
  induction b with
  | zero => rw [show a = 0 by omega]
  | succ b ih =>
    by_cases e : a = b + 1
    · rw [e]
    · show sumN b f + f b = _
      rw [ih (by omega) fun i h1 h2 => hz i h1 (by omega), hz b (by omega) (by omega)]; omega
section
variable {T0 : PM} {m w c : Nat} {ρ : Nat → Nat} {t : PM} {last : Po}
theorem kv_wh (I : PInv T0 m w c t last ρ) (hcm : c ≤ m) (hcw : c < w) (j : Nat) : WhP ((kvP0 t c last w).getD j p0) := by
  rw [kvP0_get t last hcw]
  split
  · exact wh_neg (I.wh j c (by omega) hcw)
  · split
    · exact I.lw
    · exact wh_p0
/-- the kernel vector of the table that the elimination began with -/
theorem kv_kernel (I : PInv T0 m w c t last ρ) (hs : Sur m ρ) (hcm : c ≤ m) (hcw : c < w) (e : ppP t c c = none) : Evt fun x => ∀ r, r < m → sumN w (fun j => ev (pGet T0 r j).co x * ev ((kvP0 t c last w).getD j p0).co x) = 0 := by
  refine I.star.mono fun x st r hr => ?_
  obtain ⟨i, hi, rfl⟩ := hs r hr
  have s := st i c hi hcw
  have h0 : (if c ≤ i then Tx' t x i c else 0) = 0 := by
    split
    · exact ev_pz (ppP_none e (by assumption) (by rw [I.len]; exact hi)) x
    · rfl
  rw [h0] at s
  rw [sumN_split _ (a := c + 1) (by omega) fun j h1 h2 => by
    rw [kvP0_get t last hcw, if_neg (by omega), if_neg (by omega)]
    show _ * ev ([] : List Int) x = 0
    exact Int.mul_zero _]
  show sumN c _ + ev (pGet T0 (ρ i) c).co x * ev ((kvP0 t c last w).getD c p0).co x = 0
  rw [kvP0_get t last hcw c, if_neg (by omega), if_pos rfl]
  have e2 : sumN c (fun j => ev (pGet T0 (ρ i) j).co x * ev ((kvP0 t c last w).getD j p0).co x) = -1 * sumN c (fun a => Bx T0 ρ x i a * Tx' t x a c) := by
    rw [← sumN_mul]
    exact sumN_congr fun a ha => by
      rw [kvP0_get t last hcw, if_pos ha, ev_neg' (I.wh a c (by omega) hcw)]
      show Bx T0 ρ x i a * -Tx' t x a c = _
      grind
  rw [e2]
  have s2 : ev last.co x * Bx T0 ρ x i c = sumN c (fun a => Bx T0 ρ x i a * Tx' t x a c) + 0 := s
  show _ + Bx T0 ρ x i c * ev last.co x = 0
  grind
/-- all columns with pivots: from some point on no vector is sent to zero -/
theorem indep (I : PInv T0 m w w t last ρ) (hwm : w ≤ m) : Evt fun x => ∀ v : Nat → Int, (∀ r, r < m → sumN w (fun j => ev (pGet T0 r j).co x * v j) = 0) → ∀ j, j < w → v j = 0 := by
  have hlv : Evt fun x => ev last.co x ≠ 0 := evt_ne ⟨_, (pz_false I.lw.ok I.lz).2⟩
  refine hlv.mono fun x hx v hv j hj => ?_
  have cr := cramer (r := w) (a := j) (Bx T0 ρ x) (fun _ => 0) v 1 hj fun i hi => by
    have := hv (ρ i) (I.lt i (by omega))
    rw [Int.mul_zero]
    exact this.symm
  rw [det_zero _ hj, ← I.lst x] at cr
  rcases Int.mul_eq_zero.mp (show v j * ev last.co x = 0 by omega) with z | z
  · exact z
  · exact absurd z hx
end
end G
end
section
/-! Gauss-Jordan over the fractions: values. -/
namespace G
def sumQ : Nat → (Nat → Rat) → Rat
  | 0, _ => 0
  | n + 1, f => sumQ n f + f n
theorem sumQ_congr {f g : Nat → Rat} : ∀ {n : Nat}, (∀ i, i < n → f i = g i) → sumQ n f = sumQ n g
  | 0, _ => rfl
  | n + 1, h => by
    show sumQ n f + f n = sumQ n g + g n
    rw [sumQ_congr (n := n) fun i hi => h i (by omega), h n (by omega)]
theorem sumQ_add (f g : Nat → Rat) : ∀ n, sumQ n (fun i => f i + g i) = sumQ n f + sumQ n g
  | 0 => by show (0 : Rat) = 0 + 0; grind
  | n + 1 => by
    show sumQ n _ + (f n + g n) = sumQ n f + f n + (sumQ n g + g n)
    rw [sumQ_add f g n]; grind
theorem sumQ_mul (c : Rat) (f : Nat → Rat) : ∀ n, sumQ n (fun i => c * f i) = c * sumQ n f
  | 0 => by show (0 : Rat) = c * 0; grind
  | n + 1 => by
    show sumQ n _ + c * f n = c * (sumQ n f + f n)
    rw [sumQ_mul c f n]; grind
theorem sumQ_sub (f g : Nat → Rat) (n : Nat) : sumQ n (fun i => f i - g i) = sumQ n f - sumQ n g := by
  have h1 := sumQ_add f (fun i => -1 * g i) n
  have h2 := sumQ_mul (-1) g n
  have e : sumQ n (fun i => f i - g i) = sumQ n fun i => f i + -1 * g i := sumQ_congr fun i _ => by grind
  rw [e, h1, h2]; grind
theorem sumQ_zero {f : Nat → Rat} {n : Nat} (h : ∀ i, i < n → f i = 0) : sumQ n f = 0 := by
  induction n with
  | zero => rfl
  | succ n ih =>
    show sumQ n f + f n = 0
    rw [ih fun i hi => h i (by omega), h n (by omega)]; grind
theorem sumQ_one {f : Nat → Rat} {n a : Nat} (ha : a < n) (h : ∀ i, i < n → i ≠ a → f i = 0) : sumQ n f = f a := by
  induction n with
  | zero => omega
  | succ n ih =>
    show sumQ n f + f n = f a
    by_cases e : a = n
    · subst e
      rw [sumQ_zero fun i hi => h i (by omega) (by omega)]; grind
    · rw [ih (by omega) fun i hi hia => h i (by omega) hia, h n (by omega) (by omega)]; grind
/-- the value of an entry -/
def mv (t : Mx) (i j : Nat) : Rat := fv (mGet t i j)
def Gd (n m : Nat) (t : Mx) : Prop := t.length = n ∧ ∀ i, i < n → (t.getD i []).length = m ∧ ∀ j, FOk (mGet t i j)
theorem fok_f0 : FOk f0 := fok_mkF _ (by decide)
theorem fok_f1 : FOk f1 := fok_mkF _ (by decide)
theorem getD_mapF (l : List Fr) (g : Fr → Fr) (j : Nat) (h : j < l.length) : (l.map g).getD j f0 = g (l.getD j f0) := by
  rw [List.getD_eq_getElem?_getD, List.getD_eq_getElem?_getD, List.getElem?_map, List.getElem?_eq_getElem h]
  rfl
theorem getD_outF {l : List Fr} {j : Nat} (h : l.length ≤ j) : l.getD j f0 = f0 := by
  rw [List.getD_eq_getElem?_getD, List.getElem?_eq_none h]; rfl
def swS (rank place i : Nat) : Nat := if i = rank then place else if i = place then rank else i
section
variable {t : Mx} {n m rank place c : Nat}
/-- the entries behind a turn -/
theorem clS_get (h : Gd n m t) (hr : rank < n) (hp : place < n) (h0 : (mGet t place c).num ≠ 0) {i j : Nat} (hi : i < n) (hj : j < m) :
    mv (clS t rank place c) i j = if i = rank then mv t place j / mv t place c else mv t (swS rank place i) j - mv t (swS rank place i) c * (mv t place j / mv t place c) := by
  obtain ⟨hl, hrow⟩ := h
  have hpv : ∀ k, k < m → (clPiv t place c).getD k f0 = fMul (fOver f1 (mGet t place c)) (mGet t place k) := fun k hk => by
    unfold clPiv
    rw [getD_mapF _ _ _ (by rw [(hrow place hp).1]; exact hk)]
    rfl
  have hpd := (hrow place hp).2 c
  have hov := fok_over (a := f1) (b := mGet t place c) (by decide) h0
  have hpf : ∀ k, k < m → fv ((clPiv t place c).getD k f0) = mv t place k / mv t place c := fun k hk => by
    rw [hpv k hk, fv_mul hov.ne ((hrow place hp).2 k).ne, fv_over (by decide) hpd.ne h0, fv_f1]
    show 1 / mv t place c * mv t place k = _
    grind
  have hget : mGet (clS t rank place c) i j = (clRow t rank place c i).getD j f0 := by
    unfold mGet clS
    rw [List.getD_eq_getElem?_getD (l := (List.range t.length).map _), List.getElem?_map, List.getElem?_range (by omega)]
    rfl
  unfold mv
  rw [hget]
  unfold clRow
  by_cases hir : i = rank
  · rw [if_pos hir, if_pos hir]
    exact hpf j hj
  · rw [if_neg hir, if_neg hir]
    have hrw : (t.set place (t.getD rank [])).getD i [] = t.getD (swS rank place i) [] := by
      rw [List.getD_eq_getElem?_getD]
      unfold swS
      rw [if_neg hir]
      by_cases hip : i = place
      · subst hip
        rw [if_pos rfl, List.getElem?_set_self (by omega)]
        rfl
      · rw [if_neg hip, List.getElem?_set_ne (Ne.symm hip), ← List.getD_eq_getElem?_getD]
    have hsn : swS rank place i < n := by unfold swS; split <;> (try split) <;> omega
    have hmg : mGet (t.set place (t.getD rank [])) i c = mGet t (swS rank place i) c := by unfold mGet; rw [hrw]
    rw [hrw, hmg]
    unfold mWo
    have hfok := (hrow _ hsn).2 c
    by_cases hz : (mGet t (swS rank place i) c).num = 0
    · rw [if_pos hz]
      have : fv (mGet t (swS rank place i) c) = 0 := (fv_zero hfok.ne).mpr hz
      rw [this]
      show fv (mGet t (swS rank place i) j) = _
      grind
    · rw [if_neg hz, List.getD_eq_getElem?_getD, List.getElem?_map, List.getElem?_range (by rw [(hrow _ hsn).1]; exact hj)]
      show fv (fSub (mGet t (swS rank place i) j) (fMul (mGet t (swS rank place i) c) ((clPiv t place c).getD j f0))) = _
      have hpo : FOk ((clPiv t place c).getD j f0) := by rw [hpv j hj]; exact fok_mul hov.ne ((hrow place hp).2 j).ne
      rw [fv_sub ((hrow _ hsn).2 j).ne (fok_mul hfok.ne hpo.ne).ne, fv_mul hfok.ne hpo.ne, hpf j hj]
      rfl
end
end G
end
section
/-! Gauss-Jordan: what the reduction keeps. -/
namespace G
section
variable {t : Mx} {n m rank place c : Nat}
theorem clRow_len (h : Gd n m t) (hr : rank < n) (hp : place < n) {i : Nat} (hi : i < n) : (clRow t rank place c i).length = m := by
  obtain ⟨hl, hrow⟩ := h
  unfold clRow
  split
  · unfold clPiv; rw [List.length_map]; exact (hrow place hp).1
  · have : ((t.set place (t.getD rank [])).getD i []).length = m := by
      rw [List.getD_eq_getElem?_getD]
      by_cases hip : i = place
      · subst hip
        rw [List.getElem?_set_self (by omega)]
        exact (hrow rank hr).1
      · rw [List.getElem?_set_ne (Ne.symm hip), ← List.getD_eq_getElem?_getD]
        exact (hrow i hi).1
    unfold mWo
    split
    · exact this
    · rw [List.length_map, List.length_range]; exact this
theorem gd_clS (h : Gd n m t) (hr : rank < n) (hp : place < n) (h0 : (mGet t place c).num ≠ 0) : Gd n m (clS t rank place c) := by
  have hg := h
  obtain ⟨hl, hrow⟩ := h
  have hrw : ∀ i, i < n → (clS t rank place c).getD i [] = clRow t rank place c i := fun i hi => by
    unfold clS
    rw [List.getD_eq_getElem?_getD (l := (List.range t.length).map _), List.getElem?_map, List.getElem?_range (by omega)]
    rfl
  refine ⟨by unfold clS; rw [List.length_map, List.length_range]; exact hl, fun i hi => ⟨by rw [hrw i hi]; exact clRow_len hg hr hp hi, fun j => ?_⟩⟩
  show FOk (((clS t rank place c).getD i []).getD j f0)
  rw [hrw i hi]
  have hov := fok_over (a := f1) (b := mGet t place c) (by decide) h0
  have hpo : ∀ k, FOk ((clPiv t place c).getD k f0) := fun k => by
    by_cases hk : k < m
    · have : (clPiv t place c).getD k f0 = fMul (fOver f1 (mGet t place c)) (mGet t place k) := by
        unfold clPiv
        rw [getD_mapF _ _ _ (by rw [(hrow place hp).1]; exact hk)]
        rfl
      rw [this]
      exact fok_mul hov.ne ((hrow place hp).2 k).ne
    · rw [getD_outF (by unfold clPiv; rw [List.length_map, (hrow place hp).1]; omega)]
      exact fok_f0
  have hsw : ∀ k, FOk (((t.set place (t.getD rank [])).getD i []).getD k f0) := fun k => by
    rw [List.getD_eq_getElem?_getD (l := t.set place _)]
    by_cases hip : i = place
    · subst hip
      rw [List.getElem?_set_self (by omega)]
      exact (hrow rank hr).2 k
    · rw [List.getElem?_set_ne (Ne.symm hip), ← List.getD_eq_getElem?_getD]
      exact (hrow i hi).2 k
  by_cases hj : j < m
  · unfold clRow
    split
    · exact hpo j
    · unfold mWo
      split
      · exact hsw j
      · have hle : ((t.set place (t.getD rank [])).getD i []).length = m := by
          rw [List.getD_eq_getElem?_getD]
          by_cases hip : i = place
          · subst hip
            rw [List.getElem?_set_self (by omega)]
            exact (hrow rank hr).1
          · rw [List.getElem?_set_ne (Ne.symm hip), ← List.getD_eq_getElem?_getD]
            exact (hrow i hi).1
        rw [List.getD_eq_getElem?_getD, List.getElem?_map, List.getElem?_range (by omega)]
        have hc : FOk (mGet (t.set place (t.getD rank [])) i c) := hsw c
        exact fok_sub (hsw j).ne (fok_mul hc.ne (hpo j).ne).ne
  · rw [getD_outF (by rw [clRow_len hg hr hp hi]; omega)]
    exact fok_f0
end
structure RInv (n w : Nat) (rows t : Mx) : Prop where
  gd : Gd n (w + n) t
  comb : ∀ i j, i < n → j < w → mv t i j = sumQ n fun k => mv t i (w + k) * mv rows k j
  ker : ∀ v : Nat → Rat, (∀ i, i < n → sumQ w (fun j => mv t i j * v j) = 0) → ∀ k, k < n → sumQ w (fun j => mv rows k j * v j) = 0
section
variable {n w rank place c : Nat} {rows t : Mx}
theorem swS_lt (hr : rank < n) (hp : place < n) {i : Nat} (hi : i < n) : swS rank place i < n := by unfold swS; split <;> (try split) <;> omega
theorem swS_swS (i : Nat) : swS rank place (swS rank place i) = i := by unfold swS; split <;> split <;> (try split) <;> (try split) <;> omega
theorem rinv_step (h : RInv n w rows t) (hr : rank < n) (hp : place < n) (hc : c < w) (h0 : (mGet t place c).num ≠ 0) : RInv n w rows (clS t rank place c) := by
  have hpv : mv t place c ≠ 0 := fun z => h0 ((fv_zero ((h.gd.2 place hp).2 c).ne).mp z)
  have get := fun i j (hi : i < n) (hj : j < w + n) => clS_get h.gd hr hp h0 (c := c) hi hj
  refine ⟨gd_clS h.gd hr hp h0, fun i j hi hj => ?_, fun v hv => ?_⟩
  · rw [get i j hi (by omega)]
    have e1 : sumQ n (fun k => mv (clS t rank place c) i (w + k) * mv rows k j) = sumQ n fun k => (if i = rank then mv t place (w + k) / mv t place c else mv t (swS rank place i) (w + k) - mv t (swS rank place i) c * (mv t place (w + k) / mv t place c)) * mv rows k j := sumQ_congr fun k hk => by rw [get i (w + k) hi (by omega)]
    rw [e1]
    have hP := h.comb place j hp hj
    by_cases hir : i = rank
    · rw [if_pos hir]
      have e2 : sumQ n (fun k => (if i = rank then mv t place (w + k) / mv t place c else mv t (swS rank place i) (w + k) - mv t (swS rank place i) c * (mv t place (w + k) / mv t place c)) * mv rows k j) = sumQ n fun k => (1 / mv t place c) * (mv t place (w + k) * mv rows k j) := sumQ_congr fun k hk => by rw [if_pos hir]; grind
      rw [e2, sumQ_mul, ← hP]
      grind
    · rw [if_neg hir]
      have hS := h.comb (swS rank place i) j (swS_lt hr hp hi) hj
      have e2 : sumQ n (fun k => (if i = rank then mv t place (w + k) / mv t place c else mv t (swS rank place i) (w + k) - mv t (swS rank place i) c * (mv t place (w + k) / mv t place c)) * mv rows k j) = sumQ n fun k => mv t (swS rank place i) (w + k) * mv rows k j - (mv t (swS rank place i) c / mv t place c) * (mv t place (w + k) * mv rows k j) := sumQ_congr fun k hk => by rw [if_neg hir]; grind
      rw [e2, sumQ_sub, sumQ_mul, ← hP, ← hS]
      grind
  · refine h.ker v fun r hr2 => ?_
    have hP : sumQ w (fun j => mv t place j * v j) = 0 := by
      have h1 := hv rank hr
      have e1 : sumQ w (fun j => mv (clS t rank place c) rank j * v j) = sumQ w fun j => (1 / mv t place c) * (mv t place j * v j) := sumQ_congr fun j hj => by rw [get rank j hr (by omega), if_pos rfl]; grind
      rw [e1, sumQ_mul] at h1
      grind
    by_cases hrp : r = place
    · rw [hrp]; exact hP
    · have hi := swS_lt hr hp hr2
      have hne : swS rank place r ≠ rank := by unfold swS; split <;> (try split) <;> omega
      have h1 := hv (swS rank place r) hi
      have e1 : sumQ w (fun j => mv (clS t rank place c) (swS rank place r) j * v j) = sumQ w fun j => mv t r j * v j - (mv t r c / mv t place c) * (mv t place j * v j) := sumQ_congr fun j hj => by
        rw [get _ j hi (by omega), if_neg hne, swS_swS]; grind
      rw [e1, sumQ_sub, sumQ_mul, hP] at h1
      grind
/-- the first columns of the unit matrix -/
def Unit (n c : Nat) (t : Mx) : Prop := ∀ i a, i < n → a < c → mv t i a = if i = a then 1 else 0
theorem unit_step (h : RInv n w rows t) (hu : Unit n c t) (hcn : c < n) (hcp : c ≤ place) (hp : place < n) (hc : c < w) (h0 : (mGet t place c).num ≠ 0) : Unit n (c + 1) (clS t c place c) := fun i a hi ha => by
  have hpv : mv t place c ≠ 0 := fun z => h0 ((fv_zero ((h.gd.2 place hp).2 c).ne).mp z)
  rw [clS_get h.gd hcn hp h0 hi (by omega)]
  by_cases hac : a = c
  · subst hac
    by_cases hia : i = a
    · rw [if_pos hia, if_pos hia]; grind
    · rw [if_neg hia, if_neg hia]; grind
  · have hpa := hu place a hp (by omega)
    rw [if_neg (by omega)] at hpa
    by_cases hic : i = c
    · rw [if_pos hic, if_neg (by omega), hpa]; grind
    · rw [if_neg hic, hu _ a (swS_lt hcn hp hi) (by omega), hpa]
      have e : swS c place i = a ↔ i = a := by unfold swS; rw [if_neg hic]; split <;> omega
      by_cases hia : i = a
      · rw [if_pos hia, if_pos (e.mpr hia)]; grind
      · rw [if_neg hia, if_neg fun z => hia (e.mp z)]; grind
end
end G
end
section
/-! The kernel over the fractions: independent columns give a left inverse. -/
namespace G
def PivAt (rows : Mx) (c : Nat) : Prop := ∃ pl, ppS (redN rows c).t (redN rows c).p.length c = some pl
section
variable {n w : Nat} {rows : Mx}
theorem mv_iden {n i k : Nat} (hi : i < n) (hk : k < n) : ((mIden n).getD i []).getD k f0 = mkF (if i = k then 1 else 0) 1 := by
  unfold mIden
  rw [List.getD_eq_getElem?_getD (l := (List.range n).map _), List.getElem?_map, List.getElem?_range hi]
  show (List.map _ (List.range n)).getD k f0 = _
  rw [List.getD_eq_getElem?_getD, List.getElem?_map, List.getElem?_range hk]
  rfl
theorem len_iden {n i : Nat} (hi : i < n) : ((mIden n).getD i []).length = n := by
  unfold mIden
  rw [List.getD_eq_getElem?_getD (l := (List.range n).map _), List.getElem?_map, List.getElem?_range hi]
  show (List.map _ (List.range n)).length = n
  rw [List.length_map, List.length_range]
theorem red0_row (hG : Gd n w rows) {i : Nat} (hi : i < n) : (red0 rows).t.getD i [] = rows.getD i [] ++ (mIden n).getD i [] := by
  unfold red0
  show ((List.range rows.length).map _).getD i [] = _
  rw [List.getD_eq_getElem?_getD (l := (List.range rows.length).map _), List.getElem?_map, List.getElem?_range (by rw [hG.1]; exact hi), hG.1]
  rfl
theorem red0_l (hG : Gd n w rows) {i j : Nat} (hi : i < n) (hj : j < w) : mGet (red0 rows).t i j = mGet rows i j := by
  unfold mGet
  rw [red0_row hG hi, List.getD_eq_getElem?_getD (l := _ ++ _), List.getElem?_append_left (by rw [(hG.2 i hi).1]; exact hj), ← List.getD_eq_getElem?_getD]
theorem red0_r (hG : Gd n w rows) {i k : Nat} (hi : i < n) (hk : k < n) : mGet (red0 rows).t i (w + k) = mkF (if i = k then 1 else 0) 1 := by
  unfold mGet
  rw [red0_row hG hi, List.getD_eq_getElem?_getD (l := _ ++ _), List.getElem?_append_right (by rw [(hG.2 i hi).1]; omega), (hG.2 i hi).1, show w + k - w = k by omega, ← List.getD_eq_getElem?_getD]
  exact mv_iden hi hk
theorem rinv0 (hG : Gd n w rows) : RInv n w rows (red0 rows).t := by
  have hl : (red0 rows).t.length = n := by unfold red0; show ((List.range rows.length).map _).length = n; rw [List.length_map, List.length_range]; exact hG.1
  have hlr : ∀ i, i < n → ((red0 rows).t.getD i []).length = w + n := fun i hi => by rw [red0_row hG hi, List.length_append, (hG.2 i hi).1, len_iden hi]
  have hv : ∀ i j, i < n → j < w → mv (red0 rows).t i j = mv rows i j := fun i j hi hj => by unfold mv; rw [red0_l hG hi hj]
  refine ⟨⟨hl, fun i hi => ⟨hlr i hi, fun j => ?_⟩⟩, fun i j hi hj => ?_, fun v hv2 k hk => ?_⟩
  · by_cases h1 : j < w
    · rw [red0_l hG hi h1]; exact (hG.2 i hi).2 j
    · by_cases h2 : j < w + n
      · obtain ⟨k, rfl⟩ : ∃ k, j = w + k := ⟨j - w, by omega⟩
        rw [red0_r hG hi (by omega)]
        exact fok_mkF _ (by decide)
      · unfold mGet
        rw [getD_outF (by rw [hlr i hi]; omega)]
        exact fok_f0
  · rw [hv i j hi hj, sumQ_one hi fun k hk hki => by
      unfold mv
      rw [red0_r hG hi hk, if_neg (Ne.symm hki), fv_mkF _ (by decide)]; grind]
    have : mv (red0 rows).t i (w + i) = 1 := by
      unfold mv
      rw [red0_r hG hi hi, if_pos rfl, fv_mkF _ (by decide)]; grind
    rw [this]; grind
  · have := hv2 k hk
    rw [← this]
    exact sumQ_congr fun j hj => by rw [hv k j hk hj]
theorem red_run (hG : Gd n w rows) : ∀ c, c ≤ w → (∀ i, i < c → PivAt rows i) → RInv n w rows (redN rows c).t ∧ (redN rows c).p = List.range c ∧ Unit n c (redN rows c).t ∧ c ≤ n
  | 0, _, _ => ⟨rinv0 hG, rfl, (fun i a _ ha => absurd ha (by omega)), Nat.zero_le _⟩
  | c + 1, hc, hp => by
    obtain ⟨h1, h2, h3, h4⟩ := red_run hG c (by omega) fun i hi => hp i (by omega)
    obtain ⟨pl, e⟩ := hp c (by omega)
    have hpl : (redN rows c).p.length = c := by rw [h2, List.length_range]
    have es : redN rows (c + 1) = ⟨clS (redN rows c).t (redN rows c).p.length pl c, (redN rows c).p ++ [c]⟩ := by
      show redStep c (redN rows c) = _
      unfold redStep
      rw [e]
    obtain ⟨g1, g2, g3⟩ := ppS_some e
    rw [hpl] at g1
    rw [h1.gd.1] at g2
    rw [es, hpl]
    refine ⟨rinv_step h1 (by omega) g2 (by omega) g3, ?_, unit_step h1 h3 (by omega) g1 g2 (by omega) g3, by omega⟩
    show (redN rows c).p ++ [c] = _
    rw [h2, List.range_succ]
theorem mem_p : ∀ (c x : Nat), x ∈ (redN rows c).p → PivAt rows x
  | 0, x, h => by cases h
  | c + 1, x, h => by
    have h' : x ∈ (redStep c (redN rows c)).p := h
    unfold redStep at h'
    cases e : ppS (redN rows c).t (redN rows c).p.length c with
    | none => rw [e] at h'; exact mem_p c x h'
    | some pl =>
      rw [e] at h'
      rcases List.mem_append.mp h' with h' | h'
      · exact mem_p c x h'
      · rw [List.mem_singleton.mp h']
        exact ⟨pl, e⟩
theorem piv_of_ind (hG : Gd n w rows) (hind : ∀ v : Nat → Rat, (∀ k, k < n → sumQ w (fun j => mv rows k j * v j) = 0) → ∀ j, j < w → v j = 0) : ∀ c, c ≤ w → ∀ i, i < c → PivAt rows i
  | 0, _, i, h => by omega
  | c + 1, hc, i, h => by
    have ih := piv_of_ind hG hind c (by omega)
    by_cases hic : i = c
    · subst hic
      obtain ⟨h1, h2, h3, h4⟩ := red_run hG i (by omega) ih
      cases e : ppS (redN rows i).t (redN rows i).p.length i with
      | some pl => exact ⟨pl, e⟩
      | none =>
        exfalso
        have hz : ∀ r, i ≤ r → r < n → mv (redN rows i).t r i = 0 := fun r hr1 hr2 => by
          have hpl : (redN rows i).p.length = i := by rw [h2, List.length_range]
          unfold ppS at e
          have := firstN_none e (r - i) (by rw [hpl, h1.gd.1]; omega)
          rw [hpl, show i + (r - i) = r by omega] at this
          have hn : (mGet (redN rows i).t r i).num = 0 := by simpa using this
          exact (fv_zero ((h1.gd.2 r hr2).2 i).ne).mpr hn
        have := hind (fun j => if j < i then -mv (redN rows i).t j i else if j = i then 1 else 0) (h1.ker _ fun r hr => by
          have hsplit : ∀ (b : Nat) (f : Nat → Rat), i + 1 ≤ b → (∀ j, i + 1 ≤ j → j < b → f j = 0) → sumQ b f = sumQ (i + 1) f := fun b f hb hf => by
            induction b with
            | zero => omega
            | succ b ihb =>
              by_cases eb : i + 1 = b + 1
              · rw [eb]
              · show sumQ b f + f b = _
                rw [ihb (by omega) fun j h1 h2 => hf j h1 (by omega), hf b (by omega) (by omega)]; grind
          rw [hsplit w _ (by omega) fun j h1 h2 => by rw [if_neg (by omega), if_neg (by omega)]; grind]
          show sumQ i _ + mv (redN rows i).t r i * (if i < i then _ else if i = i then 1 else 0) = 0
          rw [if_neg (by omega), if_pos rfl]
          have e1 : sumQ i (fun j => mv (redN rows i).t r j * (if j < i then -mv (redN rows i).t j i else if j = i then 1 else 0)) = sumQ i fun j => (if r = j then 1 else 0) * -mv (redN rows i).t j i := sumQ_congr fun j hj => by rw [if_pos hj, h3 r j hr hj]
          rw [e1]
          by_cases hri : r < i
          · rw [sumQ_one hri fun j hj hjr => by rw [if_neg (Ne.symm hjr)]; grind, if_pos rfl]; grind
          · rw [sumQ_zero fun j hj => by rw [if_neg (by omega)]; grind, hz r (by omega) hr]; grind) i (by omega)
        rw [if_neg (by omega), if_pos rfl] at this
        exact absurd this (by decide)
    · exact ih i (by omega)
end
end G
end
section
/-! The left inverse. -/
namespace G
theorem firstN_none_of {p : Nat → Bool} : ∀ {n k : Nat}, (∀ i, i < n → p (k + i) = false) → firstN p n k = none
  | 0, _, _ => rfl
  | n + 1, k, h => by
    unfold firstN
    rw [if_neg (by have := h 0 (by omega); rw [Nat.add_zero] at this; rw [this]; exact Bool.false_ne_true)]
    exact firstN_none_of fun i hi => by have := h (i + 1) (by omega); rwa [show k + (i + 1) = k + 1 + i by omega] at this
section
variable {n w : Nat} {rows : Mx} {m : Mx}
theorem kernel_is_inv (hG : Gd n w rows) (hp : ∀ i, i < w → PivAt rows i) : ∃ m, kernelM rows w = .inv m := by
  obtain ⟨h1, h2, h3, h4⟩ := red_run hG w (Nat.le_refl _) hp
  have e : ffree (redN rows w).p w = none := by
    unfold ffree
    rw [h2]
    refine firstN_none_of fun i hi => ?_
    rw [Nat.zero_add]
    simp [hi]
  unfold kernelM
  rw [e]
  exact ⟨_, rfl⟩
theorem piv_of_inv (h : kernelM rows w = .inv m) : (∀ i, i < w → PivAt rows i) ∧ m = (List.range w).map fun i => ((redN rows w).t.getD i []).drop w := by
  unfold kernelM at h
  split at h
  · rename_i e
    cases h
    refine ⟨fun i hi => ?_, rfl⟩
    unfold ffree at e
    have := firstN_none e i hi
    rw [Nat.zero_add] at this
    have hm : i ∈ (redN rows w).p := by simpa using this
    exact mem_p w i hm
  · cases h
theorem mCombN_val {v : List Fr} (hv : ∀ k, FOk (v.getD k f0)) (hr : ∀ k c, FOk (mGet rows k c)) : ∀ N, (mCombN v rows w N).length = w ∧ ∀ c, c < w → FOk ((mCombN v rows w N).getD c f0) ∧ fv ((mCombN v rows w N).getD c f0) = sumQ N fun k => fv (v.getD k f0) * mv rows k c
  | 0 => ⟨List.length_replicate .., fun c hc => by
    have e : (mCombN v rows w 0).getD c f0 = f0 := by
      show (List.replicate w f0).getD c f0 = f0
      rw [List.getD_eq_getElem?_getD, List.getElem?_replicate]
      split <;> rfl
    rw [e]
    exact ⟨fok_f0, fv_f0⟩⟩
  | N + 1 => by
    obtain ⟨h1, h2⟩ := mCombN_val hv hr N
    have e2 : mCombN v rows w (N + 1) = if (v.getD N f0).num = 0 then mCombN v rows w N else (List.range w).map fun c => fAdd ((mCombN v rows w N).getD c f0) (fMul (v.getD N f0) (mGet rows N c)) := rfl
    rw [e2]
    split
    · rename_i hz
      refine ⟨h1, fun c hc => ⟨(h2 c hc).1, ?_⟩⟩
      show _ = sumQ N _ + fv (v.getD N f0) * mv rows N c
      rw [(h2 c hc).2, (fv_zero (hv N).ne).mpr hz]; grind
    · refine ⟨by rw [List.length_map, List.length_range], fun c hc => ?_⟩
      have e3 : ((List.range w).map fun c => fAdd ((mCombN v rows w N).getD c f0) (fMul (v.getD N f0) (mGet rows N c))).getD c f0 = fAdd ((mCombN v rows w N).getD c f0) (fMul (v.getD N f0) (mGet rows N c)) := by
        rw [List.getD_eq_getElem?_getD, List.getElem?_map, List.getElem?_range hc]; rfl
      rw [e3]
      have hm := fok_mul (hv N).ne (hr N c).ne
      refine ⟨fok_add (h2 c hc).1.ne hm.ne, ?_⟩
      rw [fv_add (h2 c hc).1.ne hm.ne, fv_mul (hv N).ne (hr N c).ne, (h2 c hc).2]
      rfl
theorem list_ext_f {l k : List Fr} (hl : l.length = k.length) (h : ∀ c, c < l.length → l.getD c f0 = k.getD c f0) : l = k := by
  apply List.ext_getElem hl
  intro i h1 h2
  have := h i h1
  rw [List.getD_eq_getElem?_getD, List.getD_eq_getElem?_getD, List.getElem?_eq_getElem h1, List.getElem?_eq_getElem h2] at this
  exact this
theorem gd_fok (hG : Gd n w rows) (k c : Nat) : FOk (mGet rows k c) := by
  by_cases hk : k < n
  · exact (hG.2 k hk).2 c
  · unfold mGet
    have : rows.getD k [] = [] := by rw [List.getD_eq_getElem?_getD, List.getElem?_eq_none (by rw [hG.1]; omega)]; rfl
    rw [this]
    exact fok_f0
theorem drop_get (l : List Fr) (w k : Nat) : (l.drop w).getD k f0 = l.getD (w + k) f0 := by
  rw [List.getD_eq_getElem?_getD, List.getD_eq_getElem?_getD, List.getElem?_drop]
theorem inv_left (hG : Gd n w rows) (h : kernelM rows w = .inv m) : w ≤ n ∧ m.length = w ∧ (∀ r ∈ m, r.length = n) ∧ mMul m rows w = mIden w := by
  obtain ⟨hp, rfl⟩ := piv_of_inv h
  obtain ⟨h1, h2, h3, h4⟩ := red_run hG w (Nat.le_refl _) hp
  refine ⟨h4, by rw [List.length_map, List.length_range], fun r hr => ?_, ?_⟩
  · obtain ⟨i, hi, rfl⟩ := List.mem_map.mp hr
    have := List.mem_range.mp hi
    rw [List.length_drop, (h1.gd.2 i (by omega)).1]; omega
  · unfold mMul mIden
    rw [List.map_map]
    refine List.map_congr_left fun i hi => ?_
    have hi' := List.mem_range.mp hi
    have hlen : (((redN rows w).t.getD i []).drop w).length = n := by rw [List.length_drop, (h1.gd.2 i (by omega)).1]; omega
    show mComb (((redN rows w).t.getD i []).drop w) rows w = (List.range w).map fun c => mkF (if i = c then 1 else 0) 1
    unfold mComb
    obtain ⟨g1, g2⟩ := mCombN_val (v := ((redN rows w).t.getD i []).drop w) (rows := rows) (w := w) (fun k => by rw [drop_get]; exact (h1.gd.2 i (by omega)).2 (w + k)) (gd_fok hG) (((redN rows w).t.getD i []).drop w).length
    refine list_ext_f (by rw [g1, List.length_map, List.length_range]) fun c hc => ?_
    rw [g1] at hc
    obtain ⟨g3, g4⟩ := g2 c hc
    have e3 : ((List.range w).map fun c => mkF (if i = c then 1 else 0) 1).getD c f0 = mkF (if i = c then 1 else 0) 1 := by
      rw [List.getD_eq_getElem?_getD, List.getElem?_map, List.getElem?_range hc]; rfl
    rw [e3]
    refine fv_eq g3 (fok_mkF _ (by decide)) ?_
    rw [g4, fv_mkF _ (by decide), hlen]
    have hc2 := h1.comb i c (by omega) hc
    have hu := h3 i c (by omega) hc
    have e4 : sumQ n (fun k => fv ((((redN rows w).t.getD i []).drop w).getD k f0) * mv rows k c) = sumQ n fun k => mv (redN rows w).t i (w + k) * mv rows k c := sumQ_congr fun k hk => by rw [drop_get]; rfl
    rw [e4, ← hc2, hu]
    split <;> grind
end
end G
end
section
/-! Primitive polynomials; the chain of remainders. -/
namespace G
theorem trim_self {l : List Int} (h : Tr l) : trim l = l := tr_eq (tr_trim l) h (getD_trim l)
theorem gcdI_self {c : Int} (h : 0 ≤ c) : gcdI c c = c := by
  unfold gcdI
  rw [Nat.gcd_self]
  omega
/-- whole, and zero or of content 1 -/
structure PrP (p : Po) : Prop where
  wh : WhP p
  cn : pZ p = true ∨ content p.co = 1
theorem content_pos {l : List Int} (h : Nz l) : 0 < content l := by
  have h0 := content_nn l
  apply Decidable.byContradiction
  intro z
  exact h.2 (content_zero (by omega) _)
theorem prim_eq {p : Po} (h : POk p) (hz : pZ p = false) : ∃ l : List Int, primitive p = ⟨l, 1⟩ ∧ (∀ i, l.getD i 0 * content p.co = p.co.getD i 0) := by
  have hn := pz_false h hz
  have hc := content_pos hn
  have e : primitive p = mkP p.co (content p.co) := by unfold primitive; rw [if_neg (by rw [hz]; exact Bool.false_ne_true)]
  have ed : (mkP p.co (content p.co)).den = 1 := by
    show (content p.co).fdiv (sgnd (gcdI (content (trim p.co)) (content p.co)) (content p.co)) = 1
    rw [trim_self h.tr, gcdI_self (by omega)]
    unfold sgnd
    rw [if_neg (by omega)]
    exact Int.fdiv_self (by omega)
  refine ⟨(mkP p.co (content p.co)).co, ?_, fun i => ?_⟩
  · rw [e, ← ed]
  · have := getD_mkP p.co (d := content p.co) (by omega) i
    rw [ed] at this
    omega
theorem prim_pr {p : Po} (h : POk p) (h1 : p.den = 1 ∨ pZ p = false) : PrP (primitive p) := by
  cases hz : pZ p with
  | true =>
    have e : primitive p = p := by unfold primitive; rw [if_pos hz]
    rw [e]
    have := (pz_iff h).mp hz
    exact ⟨by rw [this]; exact wh_p0, .inl hz⟩
  | false =>
    have hn := pz_false h hz
    have hc := content_pos hn
    obtain ⟨l, e, hl⟩ := prim_eq h hz
    have ew : primitive p = mkP p.co (content p.co) := by unfold primitive; rw [if_neg (by rw [hz]; exact Bool.false_ne_true)]
    have ok : POk (primitive p) := by rw [ew]; exact pok_mkP _ (by omega)
    refine ⟨⟨ok, by rw [e]⟩, .inr ?_⟩
    rw [e]
    show content l = 1
    have hd : content l * content p.co ∣ content p.co := content_great1 fun i => by
      obtain ⟨c, hc2⟩ := content_dvd' l i
      refine ⟨c, ?_⟩
      rw [← hl i, hc2]
      grind
    exact unit_gcd (content_nn l) (by omega) hd
theorem ev_prim {p : Po} (h : POk p) (hz : pZ p = false) (x : Int) : ev p.co x = content p.co * ev (primitive p).co x := by
  obtain ⟨l, e, hl⟩ := prim_eq h hz
  rw [e, ← ev_psm]
  exact ev_of_coef (fun i => by rw [getD_psm, ← hl i]; grind) x
theorem prim_z {p : Po} (h : POk p) : pZ (primitive p) = pZ p := by
  cases hz : pZ p with
  | true => unfold primitive; rw [if_pos hz, hz]
  | false =>
    cases hz2 : pZ (primitive p) with
    | false => rfl
    | true =>
      exfalso
      obtain ⟨n, hn⟩ := (evt_ne ⟨_, (pz_false h hz).2⟩).ex
      rw [ev_prim h hz] at hn
      have : ev (primitive p).co n = 0 := by
        have e1 : (primitive p).co = [] := List.eq_nil_of_length_eq_zero (of_decide_eq_true hz2)
        rw [e1]; rfl
      rw [this, Int.mul_zero] at hn
      exact hn rfl
end G
end
section
/-! The chain of remainders: lengths fall, sizes by a potential. -/
namespace G
/-- lengths of quotient and remainder -/
theorem rest_len {p q : Po} (hp : p.den ≠ 0) (hz : Nz q.co) : (divide p q).2.co.length < q.co.length := by
  have hs := dloop_scale (p := p.co) hz (dlen p.co q.co)
  show (mkP (dloop p.co q.co (dlen p.co q.co)).rest _).co.length < _
  have hok := pok_mkP (dloop p.co q.co (dlen p.co q.co)).rest (mul_ne hs hp)
  have h0 := hz.1
  rcases hok.tr with e | e
  · rw [e]; show 0 < q.co.length; omega
  · apply Decidable.byContradiction
    intro z
    have g := getD_mkP (dloop p.co q.co (dlen p.co q.co)).rest (mul_ne hs hp) ((mkP (dloop p.co q.co (dlen p.co q.co)).rest ((dloop p.co q.co (dlen p.co q.co)).scale * p.den)).co.length - 1)
    rw [rest_end p.co q.co h0 _ (by omega), Int.zero_mul] at g
    rcases Int.mul_eq_zero.mp g with y | y
    · exact e y
    · exact mul_ne hs hp y
/-- g(0) = 1, g(1) = 2, g(x + 2) = 2 g(x + 1) + g(x) -/
def gp : Nat → Nat
  | 0 => 1
  | 1 => 2
  | n + 2 => 2 * gp (n + 1) + gp n
theorem gp_le : ∀ n, gp n ≤ gp (n + 1)
  | 0 => by decide
  | n + 1 => by show gp (n + 1) ≤ 2 * gp (n + 1) + gp n; omega
theorem gp_mono {a b : Nat} (h : a ≤ b) : gp a ≤ gp b := by
  induction h with
  | refl => exact Nat.le_refl _
  | step _ ih => exact Nat.le_trans ih (gp_le _)
theorem gp_pot (x : Nat) : ∀ d, 1 ≤ d → gp x + (d + 1) * gp (x + 1) ≤ gp (x + d + 1)
  | 0, h => by omega
  | 1, _ => by show gp x + 2 * gp (x + 1) ≤ 2 * gp (x + 1) + gp x; omega
  | d + 2, _ => by
    have ih := gp_pot x (d + 1) (by omega)
    have h1 : gp (x + 1) ≤ gp (x + d + 1) := gp_mono (by omega)
    have e1 : gp (x + (d + 2) + 1) = 2 * gp (x + (d + 1) + 1) + gp (x + d + 1) := rfl
    have e2 : (d + 2 + 1) * gp (x + 1) = (d + 1 + 1) * gp (x + 1) + gp (x + 1) := Nat.succ_mul _ _
    rw [e1, e2]
    omega
theorem gp14 : gp 14 = 195025 := by decide
theorem gp_lin : ∀ y, y + 2 ≤ gp (y + 1)
  | 0 => Nat.le_refl _
  | 1 => by decide
  | y + 2 => by
    have h1 := gp_lin (y + 1)
    have h2 := gp_lin y
    show y + 2 + 2 ≤ 2 * gp (y + 1 + 1) + gp (y + 1)
    omega
end G
end
section
/-! Gauss' lemma; the bound of a divisor by its values at small points. -/
namespace G
/-- primes -/
def Pm (p : Nat) : Prop := 1 < p ∧ ∀ d, d ∣ p → d = 1 ∨ d = p
theorem pm_ex (n : Nat) : 1 < n → ∃ p, Pm p ∧ p ∣ n := by
  induction n using Nat.strongRecOn with
  | _ n ih =>
    intro hn
    by_cases h : ∀ d, d ∣ n → d = 1 ∨ d = n
    · exact ⟨n, ⟨hn, h⟩, Nat.dvd_refl n⟩
    · obtain ⟨d, hd⟩ := Classical.not_forall.mp h
      obtain ⟨h1, h2⟩ := Classical.not_imp.mp hd
      have h0 : 0 < d := Nat.pos_of_dvd_of_pos h1 (by omega)
      have h3 := Nat.le_of_dvd (by omega) h1
      obtain ⟨p, hp, hpd⟩ := ih d (by omega) (by omega)
      exact ⟨p, hp, Nat.dvd_trans hpd h1⟩
theorem pm_mul {p a b : Nat} (hp : Pm p) (h : p ∣ a * b) : p ∣ a ∨ p ∣ b := by
  rcases hp.2 (Nat.gcd p a) (Nat.gcd_dvd_left p a) with e | e
  · right; exact Nat.Coprime.dvd_of_dvd_mul_left (show Nat.Coprime p a from e) h
  · left; rw [← e]; exact Nat.gcd_dvd_right p a
theorem pm_mulI {p : Nat} {a b : Int} (hp : Pm p) (h : (p : Int) ∣ a * b) : (p : Int) ∣ a ∨ (p : Int) ∣ b := by
  have h1 := Int.natAbs_dvd_natAbs.mpr h
  rw [Int.natAbs_mul, Int.natAbs_natCast] at h1
  rcases pm_mul hp h1 with g | g
  · exact .inl (Int.natAbs_dvd_natAbs.mp (by rw [Int.natAbs_natCast]; exact g))
  · exact .inr (Int.natAbs_dvd_natAbs.mp (by rw [Int.natAbs_natCast]; exact g))
theorem getD_psh0 (l : List Int) : (psh l).getD 0 0 = 0 := by cases l <;> simp [psh]
theorem getD_psh1 (l : List Int) (i : Nat) : (psh l).getD (i + 1) 0 = l.getD i 0 := by cases l <;> simp [psh]
theorem pml_cons (a : Int) (l m : List Int) (i : Nat) : (pml (a :: l) m).getD i 0 = a * m.getD i 0 + (psh (pml l m)).getD i 0 := by
  show (padd (psm a m) (psh (pml l m))).getD i 0 = _
  rw [getD_padd, getD_psm]
theorem pml_low {p : Int} : ∀ (l m : List Int) (k : Nat), (∀ j, j < k → p ∣ m.getD j 0) → ∀ j, j < k → p ∣ (pml l m).getD j 0
  | [], m, k, h, j, hj => by show p ∣ ([] : List Int).getD j 0; simp
  | a :: l, m, k, h, j, hj => by
    rw [pml_cons]
    refine Int.dvd_add (Int.dvd_trans (h j hj) (Int.dvd_mul_left _ _)) ?_
    cases j with
    | zero => rw [getD_psh0]; exact Int.dvd_zero p
    | succ j => rw [getD_psh1]; exact pml_low l m k h j (by omega)
theorem dvd_of_add {p a b : Int} (h : p ∣ a + b) (ha : p ∣ a) : p ∣ b := by
  have := Int.dvd_sub h ha
  rwa [show a + b - a = b by omega] at this
theorem gauss_p {p : Nat} (hp : Pm p) : ∀ (l m : List Int), (∀ i, (p : Int) ∣ (pml l m).getD i 0) → (∀ i, (p : Int) ∣ l.getD i 0) ∨ (∀ i, (p : Int) ∣ m.getD i 0)
  | [], m, _ => .inl fun i => by simp
  | a :: l, m, h => by
    by_cases ha : (p : Int) ∣ a
    · have h2 : ∀ i, (p : Int) ∣ (pml l m).getD i 0 := fun i => by
        have := h (i + 1)
        rw [pml_cons, getD_psh1] at this
        exact dvd_of_add this (Int.dvd_trans ha (Int.dvd_mul_right _ _))
      rcases gauss_p hp l m h2 with g | g
      · left
        intro i
        cases i with
        | zero => simpa using ha
        | succ i => simpa using g i
      · exact .inr g
    · right
      intro i
      induction i using Nat.strongRecOn with
      | _ i ih =>
        have h1 := h i
        rw [pml_cons] at h1
        have h3 : (p : Int) ∣ (psh (pml l m)).getD i 0 := by
          cases i with
          | zero => rw [getD_psh0]; exact Int.dvd_zero _
          | succ i => rw [getD_psh1]; exact pml_low l m (i + 1) (fun j hj => ih j hj) i (by omega)
        have h4 : (p : Int) ∣ a * m.getD i 0 := dvd_of_add (show (p : Int) ∣ (psh (pml l m)).getD i 0 + a * m.getD i 0 by rw [Int.add_comm]; exact h1) h3
        exact (pm_mulI hp h4).resolve_left ha
theorem unit_dvd {c : Int} (h : c.natAbs = 1) (x : Int) : c ∣ x := Int.natAbs_dvd_natAbs.mp (by rw [h]; exact Nat.one_dvd _)
/-- a list all of whose entries p divides -/
theorem list_div {p : Int} {f : List Int} (h : ∀ i, p ∣ f.getD i 0) (hp : p ≠ 0) : ∃ g : List Int, g.length = f.length ∧ ∀ i, f.getD i 0 = p * g.getD i 0 :=
  ⟨f.map fun a => a.fdiv p, List.length_map .., fun i => by
    rw [getD_mapZ (f := fun a => a.fdiv p) (Int.zero_fdiv p) i, Int.mul_comm]
    exact (fdiv_mul (h i) hp).symm⟩
theorem gauss {d : List Int} (hd : content d = 1) (n : Nat) : ∀ (c : Int) (f : List Int), c.natAbs = n → c ≠ 0 → (∀ i, c ∣ (pml d f).getD i 0) → ∀ i, c ∣ f.getD i 0 := by
  induction n using Nat.strongRecOn with
  | _ n ih =>
    intro c f hc h0 h
    by_cases h1 : n = 1
    · intro i; exact unit_dvd (by omega) _
    · obtain ⟨p, hp, hpn⟩ := pm_ex n (by omega)
      have hp1 := hp.1
      have hpc : (p : Int) ∣ c := Int.natAbs_dvd_natAbs.mp (by rw [Int.natAbs_natCast, hc]; exact hpn)
      rcases gauss_p hp d f fun i => Int.dvd_trans hpc (h i) with g | g
      · exfalso
        have := content_great1 g
        rw [hd] at this
        have := Int.le_of_dvd (by decide) this
        omega
      · obtain ⟨f1, hl, hf⟩ := list_div g (show (p : Int) ≠ 0 by omega)
        obtain ⟨c1, rfl⟩ := hpc
        have hc1 : c1 ≠ 0 := fun z => h0 (by rw [z, Int.mul_zero])
        have hv : ∀ i, (pml d f).getD i 0 = (psm (p : Int) (pml d f1)).getD i 0 := coef_eq (Evt.all fun x => by
          rw [ev_psm, ev_pml, ev_pml]
          have : ev f x = ev (psm (p : Int) f1) x := ev_of_coef (fun i => by rw [getD_psm, hf]) x
          rw [this, ev_psm]
          grind)
        have hlt : c1.natAbs < n := by
          rw [← hc, Int.natAbs_mul, Int.natAbs_natCast]
          have : 0 < c1.natAbs := Int.natAbs_pos.mpr hc1
          have h2 : 2 * c1.natAbs ≤ p * c1.natAbs := Nat.mul_le_mul_right _ (by omega)
          omega
        have hd1 := ih c1.natAbs hlt c1 f1 rfl hc1 fun i => by
          have := h i
          rw [hv, getD_psm] at this
          exact Int.dvd_of_mul_dvd_mul_left (show (p : Int) ≠ 0 by omega) this
        intro i
        rw [hf]
        exact Int.mul_dvd_mul (Int.dvd_refl _) (hd1 i)
/-- the cofactor of a primitive divisor is whole -/
theorem cofactor {d f e : List Int} {c : Int} (hd : content d = 1) (hc : c ≠ 0) (h : ∀ x, c * ev e x = ev d x * ev f x) : ∃ g, Tr g ∧ ∀ x, ev e x = ev d x * ev g x := by
  have h1 : ∀ i, (pml d f).getD i 0 = c * e.getD i 0 := fun i => by
    have := coef_eq (l := pml d f) (m := psm c e) (Evt.all fun x => by rw [ev_pml, ev_psm, h]) i
    rw [this, getD_psm]
  obtain ⟨g, _, hg⟩ := list_div (gauss hd _ c f rfl hc fun i => ⟨_, h1 i⟩) hc
  refine ⟨trim g, tr_trim g, fun x => ?_⟩
  have h2 := h x
  have h3 : ev f x = c * ev g x := by
    rw [← ev_psm]
    exact ev_of_coef (fun i => by rw [getD_psm, hg]) x
  rw [h3] at h2
  rw [ev_trim]
  exact Int.eq_of_mul_eq_mul_left hc (by rw [h2]; grind)
theorem len_mul {d g e : List Int} (td : Tr d) (tg : Tr g) (hd : d ≠ []) (hg : g ≠ []) (h : ∀ x, ev e x = ev d x * ev g x) : d.length + g.length ≤ e.length + 1 := by
  have h1 := coef_eq (l := pml d g) (m := e) (Evt.all fun x => by rw [ev_pml, h]) (d.length + g.length - 2)
  rw [top_pml d g hd hg] at h1
  have h2 : d.getD (d.length - 1) 0 ≠ 0 := td.resolve_left hd
  have h3 : g.getD (g.length - 1) 0 ≠ 0 := tg.resolve_left hg
  apply Decidable.byContradiction
  intro z
  rw [getD_out (l := e) (by omega)] at h1
  rcases Int.mul_eq_zero.mp h1 with z | z
  · exact h2 z
  · exact h3 z
/-! ### division by x - a -/
def syn (a : Int) : List Int → List Int
  | [] => []
  | [_] => []
  | _ :: b :: l => ev (b :: l) a :: syn a (b :: l)
theorem syn_len (a : Int) : ∀ l, (syn a l).length = l.length - 1
  | [] => rfl
  | [_] => rfl
  | c :: b :: l => by
    show (syn a (b :: l)).length + 1 = l.length + 1 + 1 - 1
    rw [syn_len a (b :: l)]
    simp
theorem ev_syn (a x : Int) : ∀ l, ev l x = ev l a + (x - a) * ev (syn a l) x
  | [] => by show (0 : Int) = 0 + (x - a) * 0; omega
  | [c] => by show c + x * 0 = (c + a * 0) + (x - a) * 0; omega
  | c :: b :: l => by
    have ih := ev_syn a x (b :: l)
    show c + x * ev (b :: l) x = (c + a * ev (b :: l) a) + (x - a) * (ev (b :: l) a + x * ev (syn a (b :: l)) x)
    rw [ih]
    grind
theorem nrm_syn (a : Int) (l : List Int) : nrm l ≤ (ev l a).natAbs + (1 + a.natAbs) * nrm (syn a l) := by
  have h : ∀ i, l.getD i 0 = (padd [ev l a] (padd (psh (syn a l)) (psm (-a) (syn a l)))).getD i 0 := coef_eq (Evt.all fun x => by
    rw [ev_padd, ev_padd, ev_psh, ev_psm, ev_syn a x l]
    show _ = (ev l a + x * 0) + _
    grind)
  refine Nat.le_trans (nrm_le_of (m := padd [ev l a] (padd (psh (syn a l)) (psm (-a) (syn a l)))) fun i => by rw [h]; exact Nat.le_refl _) ?_
  refine Nat.le_trans (nrm_padd _ _) ?_
  have h2 := nrm_padd (psh (syn a l)) (psm (-a) (syn a l))
  rw [nrm_psh, nrm_psm, Int.natAbs_neg] at h2
  have e : nrm [ev l a] = (ev l a).natAbs := by show _ + 0 = _; omega
  rw [e, Nat.add_mul]
  omega
/-- a list that is not zero has fewer zeros than its length -/
theorem roots_le : ∀ (k : Nat) (l : List Int), l.length ≤ k → (∃ i, l.getD i 0 ≠ 0) → ∀ pts : List Int, pts.Nodup → (∀ x ∈ pts, ev l x = 0) → pts.length + 1 ≤ k
  | 0, l, h, ⟨i, hi⟩, _, _, _ => by
    rw [List.eq_nil_of_length_eq_zero (by omega : l.length = 0)] at hi
    exact absurd (by simp) hi
  | k + 1, l, h, _, [], _, _ => by show 0 + 1 ≤ k + 1; omega
  | k + 1, l, h, ⟨i, hi⟩, a :: pts, hn, hz => by
    have h0 := hz a (List.mem_cons_self ..)
    have hs : ∀ x, ev l x = (x - a) * ev (syn a l) x := fun x => by
      have := ev_syn a x l
      omega
    have ih := roots_le k (syn a l) (by rw [syn_len]; omega) (by
      apply Classical.byContradiction
      intro z
      have hz2 : ∀ j, (syn a l).getD j 0 = 0 := fun j => Decidable.byContradiction fun y => z ⟨j, y⟩
      have := coef_eq (l := l) (m := []) (Evt.all fun x => by rw [hs, ev_zero hz2]; show _ = 0; omega) i
      exact hi (by rw [this]; simp)) pts (List.nodup_cons.mp hn).2 fun x hx => by
        have h1 := hz x (List.mem_cons_of_mem _ hx)
        rw [hs] at h1
        rcases Int.mul_eq_zero.mp h1 with y | y
        · exact absurd (show x = a by omega) fun e => (List.nodup_cons.mp hn).1 (by rw [← e]; exact hx)
        · exact y
    show pts.length + 1 + 1 ≤ k + 1
    omega
/-- small values at enough points: small coefficients -/
theorem interp (X : Nat) : ∀ (m : Nat) (f : List Int) (B : Nat) (pts : List Int), f.length ≤ m + 1 → m + 1 ≤ pts.length → pts.Nodup → (∀ x ∈ pts, 0 ≤ x ∧ x ≤ X ∧ (ev f x).natAbs ≤ B) → nrm f ≤ B * (2 * X + 3) ^ m
  | m, f, B, [], _, h2, _, _ => by
    have : m + 1 ≤ 0 := h2
    omega
  | 0, f, B, a :: pts, h1, _, _, hv => by
    obtain ⟨_, _, h⟩ := hv a (List.mem_cons_self ..)
    have h3 := nrm_syn a f
    have h4 : syn a f = [] := List.eq_nil_of_length_eq_zero (by rw [syn_len]; omega)
    rw [h4] at h3
    have e : nrm [] = 0 := rfl
    rw [e, Nat.mul_zero] at h3
    rw [Nat.pow_zero, Nat.mul_one]
    omega
  | m + 1, f, B, a :: pts, h1, h2, hn, hv => by
    obtain ⟨a0, aX, ha⟩ := hv a (List.mem_cons_self ..)
    have ih := interp X m (syn a f) (2 * B) pts (by rw [syn_len]; omega) (by simpa using h2) (List.nodup_cons.mp hn).2 fun x hx => by
      obtain ⟨x0, xX, hb⟩ := hv x (List.mem_cons_of_mem _ hx)
      refine ⟨x0, xX, ?_⟩
      have hne : x - a ≠ 0 := fun z => (List.nodup_cons.mp hn).1 (by rw [show a = x by omega]; exact hx)
      have h3 := ev_syn a x f
      have h4 : ((x - a) * ev (syn a f) x).natAbs ≤ 2 * B := by omega
      rw [Int.natAbs_mul] at h4
      exact Nat.le_trans (Nat.le_mul_of_pos_left _ (Int.natAbs_pos.mpr hne)) h4
    have h3 := nrm_syn a f
    have h5 : (1 + a.natAbs) * nrm (syn a f) ≤ (1 + X) * (2 * B * (2 * X + 3) ^ m) := Nat.mul_le_mul (by omega) ih
    have h6 : B ≤ B * (2 * X + 3) ^ m := Nat.le_mul_of_pos_right _ (Nat.pow_pos (by omega))
    have h7 : B * (2 * X + 3) ^ (m + 1) = B * (2 * X + 3) ^ m + (1 + X) * (2 * B * (2 * X + 3) ^ m) := by
      rw [Nat.pow_succ]
      generalize (2 * X + 3) ^ m = y
      grind
    omega
theorem evn_abs {X : Nat} (hX : 1 ≤ X) {x : Int} (hx : x.natAbs ≤ X) : ∀ (k : Nat) (l : List Int), l.length ≤ k + 1 → (ev l x).natAbs ≤ nrm l * X ^ k
  | _, [], _ => Nat.zero_le _
  | 0, [a], _ => by
    show (a + x * 0).natAbs ≤ (a.natAbs + 0) * X ^ 0
    rw [Int.mul_zero, Nat.pow_zero, Nat.mul_one]
    omega
  | 0, a :: b :: l, h => by simp at h
  | k + 1, a :: l, h => by
    have ih := evn_abs hX hx k l (by simpa using h)
    show (a + x * ev l x).natAbs ≤ (a.natAbs + nrm l) * X ^ (k + 1)
    have h1 := Int.natAbs_add_le a (x * ev l x)
    rw [Int.natAbs_mul] at h1
    have h2 : x.natAbs * (ev l x).natAbs ≤ X * (nrm l * X ^ k) := Nat.mul_le_mul hx ih
    have h3 : a.natAbs ≤ a.natAbs * X ^ (k + 1) := Nat.le_mul_of_pos_right _ (Nat.pow_pos (by omega))
    have e : X * (nrm l * X ^ k) = nrm l * X ^ (k + 1) := by rw [Nat.pow_succ]; grind
    rw [Nat.add_mul]
    omega
theorem nodup_ints (n : Nat) : ((List.range n).map fun i : Nat => (i : Int)).Nodup :=
  List.Pairwise.map (R := (· ≠ ·)) _ (fun a b h z => h (by exact_mod_cast z)) List.nodup_range
/-- THE BOUND OF A COFACTOR -/
theorem kron {d g e : List Int} {K N : Nat} (hK : 1 ≤ K) (td : Tr d) (tg : Tr g) (hd : d ≠ []) (h : ∀ x, ev e x = ev d x * ev g x) (hl : e.length ≤ K + 1) (hn : nrm e ≤ N) : nrm g ≤ N * K ^ K * (2 * K + 3) ^ K := by
  by_cases hg : g = []
  · rw [hg]; exact Nat.zero_le _
  · have hlen := len_mul td tg hd hg h
    have hdp : 0 < d.length := List.length_pos_iff.mpr hd
    have hgp : 0 < g.length := List.length_pos_iff.mpr hg
    have hdn : ∃ i, d.getD i 0 ≠ 0 := ⟨_, td.resolve_left hd⟩
    let all := (List.range (K + 1)).map fun i : Nat => (i : Int)
    have hall : all.length = K + 1 := by show ((List.range (K + 1)).map _).length = _; rw [List.length_map, List.length_range]
    have hnd : all.Nodup := nodup_ints _
    have hmem : ∀ x ∈ all, 0 ≤ x ∧ x ≤ K := fun x hx => by
      obtain ⟨i, hi, rfl⟩ := List.mem_map.mp hx
      have := List.mem_range.mp hi
      omega
    have hroot := roots_le d.length d (Nat.le_refl _) hdn (all.filter fun x => decide (ev d x = 0)) (hnd.filter _) fun x hx => of_decide_eq_true (List.mem_filter.mp hx).2
    have hcount : all.length = (all.filter fun x => decide (ev d x = 0)).length + (all.filter fun x => !decide (ev d x = 0)).length := by
      have := List.length_eq_countP_add_countP (fun x => decide (ev d x = 0)) (l := all)
      rw [List.countP_eq_length_filter, List.countP_eq_length_filter] at this
      rw [this]
      congr 2
      apply List.filter_congr
      intro x _
      cases decide (ev d x = 0) <;> rfl
    have hi := interp K (g.length - 1) g (N * K ^ K) (all.filter fun x => !decide (ev d x = 0)) (by omega) (by omega) (hnd.filter _) fun x hx => by
      obtain ⟨hx1, hx2⟩ := List.mem_filter.mp hx
      have hx3 : ev d x ≠ 0 := by simpa using hx2
      obtain ⟨x0, xK⟩ := hmem x hx1
      refine ⟨x0, xK, ?_⟩
      have h1 := evn_abs hK (show x.natAbs ≤ K by omega) K e hl
      have h2 := Nat.mul_le_mul_right (K ^ K) hn
      have h3 : (ev g x).natAbs ≤ (ev e x).natAbs := by
        rw [h x, Int.natAbs_mul]
        exact Nat.le_mul_of_pos_left _ (Int.natAbs_pos.mpr hx3)
      omega
    refine Nat.le_trans hi (Nat.mul_le_mul_left _ (Nat.pow_le_pow_right (by omega) (by omega)))
end G
end
section
/-! The chain of the common divisor. -/
namespace G
def LB (a : Nat) (l : List Int) : Prop := ∀ c ∈ l, lg c ≤ a
theorem LB.mono {a b : Nat} {l : List Int} (h : LB a l) (hab : a ≤ b) : LB b l := fun c hc => Nat.le_trans (h c hc) hab
theorem lb_mkP {cs : List Int} {d : Int} {b : Nat} (hd : d ≠ 0) (h : LB b cs) : LB b (mkP cs d).co := fun c hc => by
  have g0 : sgnd (gcdI (content (trim cs)) d) d ≠ 0 := sgnd_ne (gcdI_ne hd)
  obtain ⟨c', hc', rfl⟩ := List.mem_map.mp hc
  have g1 : sgnd (gcdI (content (trim cs)) d) d ∣ c' := sgnd_dvd.mpr (Int.dvd_trans (gcdI_dvd_left _ d) (content_dvd hc'))
  exact Nat.le_trans (lg_fdiv g1 g0) (h c' (trimBy_sub hc'))
section
variable {p q : Po} {a b : Nat}
theorem prim_pr' (h : POk p) : PrP (primitive p) := prim_pr h (by
  cases hz : pZ p with
  | true => left; rw [(pz_iff h).mp hz]; decide
  | false => exact .inr rfl)
theorem lb_prim (h : POk p) (hb : LB b p.co) : LB b (primitive p).co := by
  cases hz : pZ p with
  | true => unfold primitive; rw [if_pos hz]; exact hb
  | false =>
    unfold primitive
    rw [if_neg (by rw [hz]; exact Bool.false_ne_true)]
    have := content_pos (pz_false h hz)
    exact lb_mkP (by omega) hb
theorem len_prim (p : Po) : (primitive p).co.length ≤ p.co.length := by
  unfold primitive
  split
  · exact Nat.le_refl _
  · exact len_mkP_le _ _
theorem cok (h : POk p) (hl : p.co.length ≤ 90000) : COk p := by
  refine ⟨?_, hl⟩
  cases hz : pZ p with
  | true => exact .inl rfl
  | false =>
    have := content_pos (pz_false h hz)
    exact .inr (by omega)
theorem ok_rest (hp : p.den ≠ 0) (hq : Nz q.co) : POk (divide p q).2 := pok_mkP _ (mul_ne (dloop_scale (p := p.co) hq _) hp)
theorem lb_rest (hp : p.den ≠ 0) (hq : Nz q.co) (h1 : LB a p.co) (h2 : LB b q.co) : LB (a + dlen p.co q.co * (b + 2)) (divide p q).2.co :=
  lb_mkP (mul_ne (dloop_scale (p := p.co) hq _) hp) (mem_of_getD (dloop_lg h1 h2 _).1)
/-- divides, over the fractions -/
def Dv (g p : Po) : Prop := ∃ (f : List Int) (c : Int), c ≠ 0 ∧ ∀ x, c * ev p.co x = ev g.co x * ev f x
theorem dv_refl (p : Po) : Dv p p := ⟨[1], 1, by decide, fun x => by
  have : ev [1] x = 1 := by show 1 + x * 0 = _; omega
  rw [this]; omega⟩
theorem dv_zero (g : Po) (h : pZ p = true) : Dv g p := ⟨[], 1, by decide, fun x => by rw [ev_pz h]; show 1 * 0 = _ * 0; omega⟩
theorem prim_mul (h : POk p) : ∃ k : Int, ∀ x, ev p.co x = k * ev (primitive p).co x := by
  cases hz : pZ p with
  | true => exact ⟨1, fun x => by unfold primitive; rw [if_pos hz]; omega⟩
  | false => exact ⟨_, ev_prim h hz⟩
theorem gstep_eq (hp : p.den ≠ 0) (hq : Nz q.co) : ∃ (S r : Int) (Q : List Int), S ≠ 0 ∧ ∀ x, S * ev p.co x = ev Q x * ev q.co x + r * ev (primitive (divide p q).2).co x := by
  have hs := dloop_scale (p := p.co) hq (dlen p.co q.co)
  have hok := ok_rest hp hq
  obtain ⟨k, hk⟩ := prim_mul hok
  refine ⟨(divide p q).2.den * (dloop p.co q.co (dlen p.co q.co)).scale, (dloop p.co q.co (dlen p.co q.co)).scale * p.den * k, psm (divide p q).2.den (dloop p.co q.co (dlen p.co q.co)).quo, mul_ne hok.ne hs, fun x => ?_⟩
  have h1 := ev_dloop x p.co q.co hq.1 (dlen p.co q.co) (Nat.le_refl _)
  have h2 := ev_mkP (dloop p.co q.co (dlen p.co q.co)).rest (mul_ne hs hp) x
  have h3 := hk x
  have h4 : ev (divide p q).2.co x * ((dloop p.co q.co (dlen p.co q.co)).scale * p.den) = ev (dloop p.co q.co (dlen p.co q.co)).rest x * (divide p q).2.den := h2
  rw [ev_psm]
  rw [h3] at h4
  generalize (dloop p.co q.co (dlen p.co q.co)).scale = sc at *
  generalize ev (dloop p.co q.co (dlen p.co q.co)).quo x = qu at *
  generalize ev (dloop p.co q.co (dlen p.co q.co)).rest x = re at *
  generalize (divide p q).2.den = dd at *
  generalize ev (primitive (divide p q).2).co x = pr at *
  grind
theorem dv_back {g : Po} (hp : p.den ≠ 0) (hq : Nz q.co) (h1 : Dv g q) (h2 : Dv g (primitive (divide p q).2)) : Dv g p := by
  obtain ⟨S, r, Q, hS, e⟩ := gstep_eq hp hq
  obtain ⟨f1, c1, n1, e1⟩ := h1
  obtain ⟨f2, c2, n2, e2⟩ := h2
  refine ⟨padd (psm c2 (pml Q f1)) (psm (r * c1) f2), S * (c1 * c2), mul_ne hS (mul_ne n1 n2), fun x => ?_⟩
  have e := e x
  have e1 := e1 x
  have e2 := e2 x
  rw [ev_padd, ev_psm, ev_psm, ev_pml]
  generalize ev p.co x = u at *
  generalize ev q.co x = v at *
  generalize ev (primitive (divide p q).2).co x = y at *
  grind
end
theorem gseq_succ (s : Po × Po) : ∀ n, gseq s (n + 1) = gseq (gstep s) n
  | 0 => rfl
  | n + 1 => by
    show gstep (gseq s (n + 1)) = gstep (gseq (gstep s) n)
    rw [gseq_succ s n]
/-- what the chain gives -/
structure GC (s : Po × Po) (k : Nat) : Prop where
  turn : ∀ n, n < k → pZ (gseq s n).2 = false ∧ DOk (gseq s n).1 (gseq s n).2 ∧ COk (divide (gseq s n).1 (gseq s n).2).2
  stop : pZ (gseq s k).2 = true
  pr : PrP (gseq s k).1
  bits : ∃ A, WP A 15 (gseq s k).1 ∧ A < 130000000
  d1 : Dv (gseq s k).1 s.1
  d2 : Dv (gseq s k).1 s.2
theorem gc_zero {s : Po × Po} (hz : pZ s.2 = true) (pr : PrP s.1) (bits : ∃ A, WP A 15 s.1 ∧ A < 130000000) : GC s 0 :=
  ⟨fun n h => absurd h (by omega), hz, pr, bits, dv_refl _, dv_zero _ hz⟩
theorem gc_step {s : Po × Po} {n : Nat} (hz : pZ s.2 = false) (p1 : PrP s.1) (p2 : PrP s.2) (hd : DOk s.1 s.2) (hc : COk (divide s.1 s.2).2) (h : GC (gstep s) (gturns n (gstep s))) : GC s (gturns (n + 1) s) := by
  have e : gturns (n + 1) s = gturns n (gstep s) + 1 := by
    show (if pZ s.2 = true then 0 else gturns n (gstep s) + 1) = _
    rw [if_neg (by rw [hz]; exact Bool.false_ne_true)]
  rw [e]
  refine ⟨fun m hm => ?_, by rw [gseq_succ]; exact h.stop, by rw [gseq_succ]; exact h.pr, by rw [gseq_succ]; exact h.bits, ?_, by rw [gseq_succ]; exact h.d1⟩
  · cases m with
    | zero => exact ⟨hz, hd, hc⟩
    | succ m => rw [gseq_succ]; exact h.turn m (by omega)
  · rw [gseq_succ]
    exact dv_back p1.wh.ok.ne (pz_false p2.wh.ok hz) h.d1 h.d2
/-- the chain behind its first turn -/
structure GI (b : Nat) (s : Po × Po) : Prop where
  p1 : PrP s.1
  p2 : PrP s.2
  lt : s.2.co.length < s.1.co.length
  l15 : s.1.co.length ≤ 15
  b1 : ∃ A, LB A s.1.co ∧ A + 2 ≤ b * gp (15 - s.1.co.length)
  b2 : ∃ B, LB B s.2.co ∧ B + 2 ≤ b * gp (15 - s.1.co.length + 1)
theorem PrP.s2 {p : Po} {a : Nat} (h : PrP p) (hb : LB a p.co) : S2 a 0 p := ⟨h.wh.ok.ne, by rw [h.wh.one, lg_one]; exact Nat.le_refl _, hb⟩
theorem content_single (a : Int) : content [a] = (a.natAbs : Int) := by
  show gcdI 0 ([a].getD 0 0) = _
  unfold gcdI
  simp
theorem lb_const {p : Po} (h : PrP p) (hz : pZ p = false) (hl : p.co.length = 1) : LB 0 p.co := by
  have hc := h.cn.resolve_left (by rw [hz]; exact Bool.false_ne_true)
  match e : p.co, hl with
  | [a], _ =>
    rw [e, content_single] at hc
    intro c hm
    rw [List.mem_singleton.mp hm]
    have : a.natAbs = 1 := by omega
    unfold lg
    rw [this]
    decide
theorem gp_le14 {x : Nat} (h : x ≤ 14) : gp x ≤ 195025 := by rw [← gp14]; exact gp_mono h
theorem gi_step {b : Nat} {s : Po × Po} (hb : b * 195025 < 130000000) (h : GI b s) (hz : pZ s.2 = false) : DOk s.1 s.2 ∧ COk (divide s.1 s.2).2 ∧ GI b (gstep s) := by
  obtain ⟨A, hA, hA2⟩ := h.b1
  obtain ⟨B, hB, hB2⟩ := h.b2
  have hlt := h.lt
  have h15 := h.l15
  have hn := pz_false h.p2.wh.ok hz
  have hn1 := hn.1
  have hrl := rest_len h.p1.wh.ok.ne hn
  have hok := ok_rest h.p1.wh.ok.ne hn
  have hlb := lb_rest h.p1.wh.ok.ne hn hA hB
  obtain ⟨d, hd1, hd⟩ : ∃ d, 1 ≤ d ∧ s.1.co.length = s.2.co.length + d := ⟨s.1.co.length - s.2.co.length, by omega, by omega⟩
  have hdl : dlen s.1.co s.2.co = d + 1 := by unfold dlen; omega
  have hx : 15 - s.1.co.length + d = 15 - s.2.co.length := by omega
  have hpot := gp_pot (15 - s.1.co.length) d hd1
  have key : A + dlen s.1.co s.2.co * (B + 2) + 2 ≤ b * gp (15 - s.2.co.length + 1) := by
    have h1 := Nat.mul_le_mul_left b hpot
    rw [hx, Nat.mul_add, ← Nat.mul_assoc, Nat.mul_comm b (d + 1), Nat.mul_assoc] at h1
    have h2 := Nat.mul_le_mul_left (d + 1) hB2
    rw [hdl]
    omega
  refine ⟨?_, cok hok (by omega), ⟨h.p2, prim_pr' hok, ?_, by show s.2.co.length ≤ 15; omega, ⟨B, hB, ?_⟩, ⟨_, lb_prim hok hlb, key⟩⟩⟩
  · by_cases h1 : s.2.co.length = 1
    · refine ⟨A, 0, 0, 0, h.p1.s2 hA, h.p2.s2 (lb_const h.p2 hz h1), hn, ?_, by omega, by omega⟩
      have h2 : b * gp (15 - s.1.co.length) ≤ b * gp 13 := Nat.mul_le_mul_left b (gp_mono (by omega))
      have h3 : gp 13 = 80782 := by decide
      rw [h3] at h2
      rw [hdl]
      omega
    · refine ⟨A, 0, B, 0, h.p1.s2 hA, h.p2.s2 hB, hn, ?_, by omega, by omega⟩
      have h2 : b * gp (15 - s.2.co.length + 1) ≤ b * 195025 := Nat.mul_le_mul_left b (gp_le14 (by omega))
      omega
  · exact Nat.lt_of_le_of_lt (len_prim _) hrl
  · show B + 2 ≤ b * gp (15 - s.2.co.length)
    exact Nat.le_trans hB2 (Nat.mul_le_mul_left b (gp_mono (by omega)))
theorem PrP.wp {p : Po} {a : Nat} (h : PrP p) (hb : LB a p.co) (hl : p.co.length ≤ 15) : WP a 15 p := ⟨h.wh.one, hb, hl⟩
theorem GI.bits {b : Nat} {s : Po × Po} (hb : b * 195025 < 130000000) (h : GI b s) : ∃ A, WP A 15 s.1 ∧ A < 130000000 := by
  obtain ⟨A, hA, hA2⟩ := h.b1
  have hlt := h.lt
  refine ⟨A, h.p1.wp hA h.l15, ?_⟩
  have h2 : b * gp (15 - s.1.co.length) ≤ b * 195025 := Nat.mul_le_mul_left b (gp_le14 (by omega))
  omega
theorem chain {b : Nat} (hb : b * 195025 < 130000000) : ∀ (n : Nat) (s : Po × Po), GI b s → s.2.co.length ≤ n → GC s (gturns n s)
  | 0, s, h, hl => gc_zero (decide_eq_true (by omega)) h.p1 (h.bits hb)
  | n + 1, s, h, hl => by
    cases hz : pZ s.2 with
    | true =>
      have e : gturns (n + 1) s = 0 := by
        show (if pZ s.2 = true then 0 else _) = _
        rw [if_pos hz]
      rw [e]
      exact gc_zero hz h.p1 (h.bits hb)
    | false =>
      obtain ⟨h1, h2, h3⟩ := gi_step hb h hz
      have := h3.lt
      have e : (gstep s).1 = s.2 := rfl
      exact gc_step hz h.p1 h.p2 h1 h2 (chain hb n _ h3 (by rw [e] at this; omega))
theorem gp_pos (x : Nat) : 1 ≤ gp x := gp_mono (Nat.zero_le x)
theorem gp_two (x : Nat) : 2 ≤ gp (x + 1) := gp_mono (show 1 ≤ x + 1 by omega)
theorem chain0 {b c : Nat} (hb : b * 195025 < 130000000) (hc : c + 2 ≤ b) {s : Po × Po} (p1 : PrP s.1) (p2 : PrP s.2) (l1 : s.1.co.length ≤ 15) (l2 : s.2.co.length ≤ 15) (b1 : LB c s.1.co) (b2 : LB c s.2.co) (n : Nat) (hn : s.1.co.length + s.2.co.length + 1 ≤ n) : GC s (gturns n s) := by
  have hle : ∀ x, b ≤ b * gp x := fun x => Nat.le_mul_of_pos_right _ (gp_pos x)
  have hle2 : ∀ x, 2 * b ≤ b * gp (x + 1) := fun x => by
    have := Nat.mul_le_mul_left b (gp_two x)
    omega
  by_cases hlt : s.2.co.length < s.1.co.length
  · exact chain hb n s ⟨p1, p2, hlt, l1, ⟨c, b1, Nat.le_trans hc (hle _)⟩, ⟨c, b2, Nat.le_trans hc (hle _)⟩⟩ (by omega)
  · cases n with
    | zero => omega
    | succ n =>
      cases hz : pZ s.2 with
      | true =>
        have e : gturns (n + 1) s = 0 := by
          show (if pZ s.2 = true then 0 else _) = _
          rw [if_pos hz]
        rw [e]
        exact gc_zero hz p1 ⟨c, p1.wp b1 l1, by omega⟩
      | false =>
        have hq := pz_false p2.wh.ok hz
        have hrl := rest_len p1.wh.ok.ne hq
        have hok := ok_rest p1.wh.ok.ne hq
        have hlb := lb_rest p1.wh.ok.ne hq b1 b2
        have hdl : dlen s.1.co s.2.co ≤ 1 := by unfold dlen; omega
        have hm : dlen s.1.co s.2.co * (c + 2) ≤ 1 * (c + 2) := Nat.mul_le_mul_right _ hdl
        refine gc_step hz p1 p2 ⟨c, 0, c, 0, p1.s2 b1, p2.s2 b2, hq, by omega, by omega, by omega⟩ (cok hok (by omega)) (chain hb n _ ⟨p2, prim_pr' hok, ?_, l2, ⟨c, b2, Nat.le_trans hc (hle _)⟩, ⟨_, lb_prim hok hlb, ?_⟩⟩ ?_)
        · exact Nat.lt_of_le_of_lt (len_prim _) hrl
        · refine Nat.le_trans ?_ (hle2 _)
          omega
        · have h1 := len_prim (divide s.1 s.2).2
          show (primitive (divide s.1 s.2).2).co.length ≤ n
          omega
/-- the common divisor of two -/
theorem gok {b c : Nat} {p q : Po} (hb : b * 195025 < 130000000) (hc : c + 2 ≤ b) (hp : POk p) (hq : POk q) (l1 : p.co.length ≤ 15) (l2 : q.co.length ≤ 15) (b1 : LB c (primitive p).co) (b2 : LB c (primitive q).co) : GOk p q ∧ PrP (gseq (gstart p q) (gN p q)).1 ∧ (gseq (gstart p q) (gN p q)).1.co.length ≤ 15 ∧ Dv (gseq (gstart p q) (gN p q)).1 (primitive p) ∧ Dv (gseq (gstart p q) (gN p q)).1 (primitive q) := by
  have h1 := len_prim p
  have h2 := len_prim q
  have g : GC (gstart p q) (gN p q) := chain0 hb hc (s := gstart p q) (prim_pr' hp) (prim_pr' hq) (Nat.le_trans h1 l1) (Nat.le_trans h2 l2) b1 b2 _ (by
    show (primitive p).co.length + (primitive q).co.length + 1 ≤ _
    omega)
  obtain ⟨A, hA, hA2⟩ := g.bits
  refine ⟨⟨cok hp (by omega), cok hq (by omega), g.turn, g.stop, ?_⟩, g.pr, hA.2.2, g.d1, g.d2⟩
  cases hz : pZ (gseq (gstart p q) (gN p q)).1 with
  | true => exact .inl hz
  | false => exact .inr ⟨pz_false g.pr.wh.ok hz, A, 15, hA, hA2, by decide⟩
end G
end
section
/-! The common divisor of a row; the divided row. -/
namespace G
/-- proportional -/
def Pp (p q : Po) : Prop := ∃ S T : Int, S ≠ 0 ∧ T ≠ 0 ∧ ∀ x, S * ev p.co x = T * ev q.co x
theorem pp_refl (p : Po) : Pp p p := ⟨1, 1, by decide, by decide, fun _ => rfl⟩
theorem Pp.symm {p q : Po} (h : Pp p q) : Pp q p := by
  obtain ⟨S, T, a, b, e⟩ := h
  exact ⟨T, S, b, a, fun x => (e x).symm⟩
theorem Pp.trans {p q r : Po} (h : Pp p q) (k : Pp q r) : Pp p r := by
  obtain ⟨S, T, a, b, e⟩ := h
  obtain ⟨S2, T2, a2, b2, e2⟩ := k
  refine ⟨S2 * S, T * T2, mul_ne a2 a, mul_ne b b2, fun x => ?_⟩
  have h1 := e x
  have h2 := e2 x
  generalize ev p.co x = u at *
  generalize ev q.co x = v at *
  generalize ev r.co x = y at *
  grind
section
variable {p q g h : Po}
theorem Pp.dvl (k : Pp g h) (d : Dv g p) : Dv h p := by
  obtain ⟨S, T, a, b, e⟩ := k
  obtain ⟨f, c, hc, e2⟩ := d
  refine ⟨psm T f, S * c, mul_ne a hc, fun x => ?_⟩
  have h1 := e x
  have h2 := e2 x
  rw [ev_psm]
  grind
theorem Pp.dvr (k : Pp p q) (d : Dv g p) : Dv g q := by
  obtain ⟨S, T, a, b, e⟩ := k
  obtain ⟨f, c, hc, e2⟩ := d
  refine ⟨psm S f, c * T, mul_ne hc b, fun x => ?_⟩
  have h1 := e x
  have h2 := e2 x
  rw [ev_psm]
  grind
theorem dv_trans (d : Dv g h) (k : Dv h p) : Dv g p := by
  obtain ⟨f, c, hc, e⟩ := d
  obtain ⟨f2, c2, hc2, e2⟩ := k
  refine ⟨pml f f2, c * c2, mul_ne hc hc2, fun x => ?_⟩
  have h1 := e x
  have h2 := e2 x
  rw [ev_pml]
  grind
theorem ne_zero (hq : POk q) (hz : pZ q = false) : ¬∀ x, ev q.co x = 0 := fun z => by
  obtain ⟨n, hn⟩ := (evt_ne ⟨_, (pz_false hq hz).2⟩).ex
  exact hn (z n)
theorem Pp.zero (k : Pp p q) (hz : pZ p = true) (hq : POk q) : pZ q = true := by
  cases e : pZ q with
  | true => rfl
  | false =>
    exfalso
    obtain ⟨S, T, a, b, e2⟩ := k
    refine ne_zero hq e fun x => ?_
    have := e2 x
    rw [ev_pz hz, Int.mul_zero] at this
    exact (Int.mul_eq_zero.mp this.symm).resolve_left b
theorem pp_prim (hp : POk p) : Pp p (primitive p) := by
  cases hz : pZ p with
  | true => unfold primitive; rw [if_pos hz]; exact pp_refl p
  | false =>
    have := content_pos (pz_false hp hz)
    exact ⟨1, content p.co, by decide, by omega, fun x => by rw [ev_prim hp hz, Int.one_mul]⟩
theorem mkF_num_ne {n d : Int} (hd : d ≠ 0) (hn : n ≠ 0) : (mkF n d).num ≠ 0 := fdiv_ne (sgnd_dvd.mpr (gcdI_dvd_left n d)) hn
/-- the last number -/
def ldI (p : Po) : Int := p.co.getD (p.co.length - 1) 0
theorem pLead_eq (h : WhP p) (hz : pZ p = false) : pLead p = mkF (ldI p) 1 := by
  unfold pLead
  rw [if_neg (pz_false h.ok hz).1, h.one]
  rfl
theorem ld_ne (h : WhP p) (hz : pZ p = false) : ldI p ≠ 0 := (pz_false h.ok hz).2
theorem monic_eq (hz : pZ p = false) : monic p = pScaled p (fOver f1 (pLead p)) := by
  unfold monic
  rw [if_neg (by rw [hz]; exact Bool.false_ne_true)]
  rfl
theorem lead_f (h : WhP p) (hz : pZ p = false) : (pLead p).num ≠ 0 ∧ (pLead p).den ≠ 0 ∧ fv (pLead p) = (ldI p : Rat) := by
  rw [pLead_eq h hz]
  refine ⟨mkF_num_ne (by decide) (ld_ne h hz), (fok_mkF _ (by decide)).ne, ?_⟩
  rw [fv_mkF _ (by decide)]
  grind
theorem pok_monic (h : WhP p) : POk (monic p) := by
  cases hz : pZ p with
  | true => unfold monic; rw [if_pos hz]; exact h.ok
  | false =>
    rw [monic_eq hz]
    obtain ⟨a, b, _⟩ := lead_f h hz
    exact pok_scaled h.ok.ne (fok_over (a := f1) (by decide) a).ne
theorem pv_monic (h : WhP p) (hz : pZ p = false) (x : Int) : pv (monic p) x = (ev p.co x : Rat) / (ldI p : Rat) := by
  rw [monic_eq hz]
  obtain ⟨a, b, c⟩ := lead_f h hz
  rw [pv_scaled x h.ok.ne (fok_over (a := f1) (by decide) a).ne, fv_over (by decide) b a, fv_f1, c, h.pv]
  grind
theorem pp_monic (h : WhP p) : Pp p (monic p) := by
  cases hz : pZ p with
  | true => unfold monic; rw [if_pos hz]; exact pp_refl p
  | false =>
    have h1 := den_ne (ld_ne h hz)
    have h2 := den_ne (pok_monic h).ne
    refine ⟨(monic p).den, ldI p, (pok_monic h).ne, ld_ne h hz, fun x => ?_⟩
    have := pv_monic h hz x
    unfold pv at this
    have : ((monic p).den : Rat) * (ev p.co x : Rat) = (ldI p : Rat) * (ev (monic p).co x : Rat) := by grind
    exact_mod_cast this
theorem len_monic (p : Po) : (monic p).co.length ≤ p.co.length := by
  unfold monic
  split
  · exact Nat.le_refl _
  · refine Nat.le_trans (len_mkP_le _ _) ?_
    rw [List.length_map]
    exact Nat.le_refl _
end
/-! ### rows -/
structure RowIn (row : List Po) (K N c : Nat) (M : Int) : Prop where
  K1 : 1 ≤ K
  K14 : K ≤ 14
  kb : N * K ^ K * (2 * K + 3) ^ K < 2 ^ (c + 1)
  c664 : c ≤ 664
  m0 : 0 < M
  m100 : M.natAbs < 2 ^ 100
  len : row.length ≤ 90000
  ok : ∀ j, POk (row.getD j p0)
  dn : ∀ j, (row.getD j p0).den ∣ M
  ln : ∀ j, (row.getD j p0).co.length ≤ K + 1
  nm : ∀ j, nrm (row.getD j p0).co ≤ N
structure CI (row : List Po) (i : Nat) (g : Po) : Prop where
  pr : PrP g
  ln : g.co.length ≤ 15
  dv : ∀ j, j < i → Dv g (row.getD j p0)
  nz : pZ g = true ∨ ∃ j, j < i ∧ pZ (row.getD j p0) = false
section
variable {row : List Po} {K N c : Nat} {M : Int}
theorem RowIn.nb (H : RowIn row K N c M) : N ≤ N * K ^ K * (2 * K + 3) ^ K := by
  have h1 : N ≤ N * K ^ K := Nat.le_mul_of_pos_right _ (Nat.pow_pos (by have := H.K1; omega))
  exact Nat.le_trans h1 (Nat.le_mul_of_pos_right _ (Nat.pow_pos (by omega)))
theorem RowIn.lb (H : RowIn row K N c M) (j : Nat) : LB c (row.getD j p0).co := lg_nrm (Nat.lt_of_le_of_lt (Nat.le_trans (H.nm j) H.nb) H.kb)
theorem pz_nil {p : Po} (h : pZ p = true) : p.co = [] := List.eq_nil_of_length_eq_zero (of_decide_eq_true h)
theorem PrP.cont {p : Po} (h : PrP p) (hz : pZ p = false) : content p.co = 1 := h.cn.resolve_left (by rw [hz]; exact Bool.false_ne_true)
/-- a primitive divisor of an entry that is not zero -/
theorem dv_bound (H : RowIn row K N c M) {h : Po} (ph : PrP h) {j : Nat} (d : Dv h (row.getD j p0)) (hz : pZ (row.getD j p0) = false) : pZ h = false ∧ nrm h.co ≤ N * K ^ K * (2 * K + 3) ^ K := by
  have hz2 : pZ h = false := by
    cases e : pZ h with
    | false => rfl
    | true =>
      exfalso
      obtain ⟨f, c, hc, e2⟩ := d
      refine ne_zero (H.ok j) hz fun x => ?_
      have := e2 x
      rw [ev_pz e, Int.zero_mul] at this
      exact (Int.mul_eq_zero.mp this).resolve_left hc
  refine ⟨hz2, ?_⟩
  obtain ⟨f, c, hc, e2⟩ := d
  obtain ⟨g, tg, hg⟩ := cofactor (ph.cont hz2) hc e2
  refine kron H.K1 tg ph.wh.ok.tr (fun z => ?_) (fun x => by rw [hg x, Int.mul_comm]) (H.ln j) (H.nm j)
  subst z
  exact ne_zero (H.ok j) hz fun x => by rw [hg]; exact Int.mul_zero _
theorem ci_bound (H : RowIn row K N c M) {i : Nat} {g h : Po} (C : CI row i g) (ph : PrP h) (k : Pp g h) : nrm h.co ≤ N * K ^ K * (2 * K + 3) ^ K := by
  rcases C.nz with z | ⟨j, hj, hz⟩
  · rw [pz_nil (k.zero z ph.wh.ok)]
    exact Nat.zero_le _
  · exact (dv_bound H ph (k.dvl (C.dv j hj)) hz).2
theorem gN_zero {p q : Po} (h : pZ q = true) : gN p q = 0 := by
  have hz : pZ (gstart p q).2 = true := by
    show pZ (primitive q) = true
    unfold primitive
    rw [if_pos h]; exact h
  show gturns (p.co.length + q.co.length + 1 + 1) (gstart p q) = 0
  show (if pZ (gstart p q).2 = true then 0 else _) = 0
  rw [if_pos hz]
theorem ci_step (H : RowIn row K N c M) {i : Nat} {g : Po} (C : CI row i g) : GOk (monic g) (row.getD i p0) ∧ ∃ g', CI row (i + 1) g' ∧ cdiv (monic g) (row.getD i p0) = monic g' := by
  have hm := pok_monic C.pr.wh
  have hpp := (pp_monic C.pr.wh).trans (pp_prim hm)
  have hb := ci_bound H C (prim_pr' hm) hpp
  obtain ⟨h1, h2, h3, h4, h5⟩ := gok (b := c + 2) (c := c) (by have := H.c664; omega) (Nat.le_refl _) hm (H.ok i) (Nat.le_trans (len_monic g) C.ln) (Nat.le_trans (H.ln i) (by have := H.K14; omega)) (lg_nrm (Nat.lt_of_le_of_lt hb H.kb)) (lb_prim (H.ok i) (H.lb i))
  refine ⟨h1, _, ⟨h2, h3, fun j hj => ?_, ?_⟩, rfl⟩
  · have d1 : Dv (gseq (gstart (monic g) (row.getD i p0)) (gN (monic g) (row.getD i p0))).1 g := hpp.symm.dvr h4
    by_cases e : j = i
    · subst e
      exact (pp_prim (H.ok j)).symm.dvr h5
    · exact dv_trans d1 (C.dv j (by omega))
  · cases hz : pZ (row.getD i p0) with
    | false => exact .inr ⟨i, Nat.lt_succ_self i, hz⟩
    | true =>
      rcases C.nz with z | ⟨j, hj, hz2⟩
      · left
        rw [gN_zero hz]
        show pZ (primitive (monic g)) = true
        exact hpp.zero z (prim_pr' hm).wh.ok
      · exact .inr ⟨j, by omega, hz2⟩
theorem ci_run (H : RowIn row K N c M) : ∀ i, (∀ j, j < i → GOk (cdivN row j) (row.getD j p0)) ∧ ∃ g, CI row i g ∧ cdivN row i = monic g
  | 0 => ⟨fun j h => absurd h (by omega), p0, ⟨⟨wh_p0, .inl (by decide)⟩, by decide, fun j h => absurd h (by omega), .inl (by decide)⟩, by
    show p0 = monic p0
    decide⟩
  | i + 1 => by
    obtain ⟨h1, g, C, e⟩ := ci_run H i
    obtain ⟨h2, g', C', e'⟩ := ci_step H C
    rw [← e] at h2 e'
    refine ⟨fun j hj => ?_, g', C', e'⟩
    by_cases hji : j = i
    · subst hji; exact h2
    · exact h1 j (by omega)
theorem mkP_self {p : Po} (h : POk p) : mkP p.co p.den = p := pok_eq (pok_mkP _ h.ne) h fun i => getD_mkP p.co h.ne i
/-- the divided row -/
structure DR (row : List Po) (c : Nat) (D : List Int) (l : Int) : Prop where
  td : Tr D
  dz : D ≠ []
  dl : D.length ≤ 15
  l0 : l ≠ 0
  lc : lg l ≤ c
  ent : ∀ j, j < row.length → ∃ f, Tr f ∧ (∀ x, ev (row.getD j p0).co x = ev D x * ev f x) ∧ (dRow row).getD j p0 = mkP (psm l f) (row.getD j p0).den
theorem getD_mapP (l : List Po) (g : Po → Po) (j : Nat) (h : j < l.length) : (l.map g).getD j p0 = g (l.getD j p0) := by
  rw [List.getD_eq_getElem?_getD, List.getD_eq_getElem?_getD, List.getElem?_map, List.getElem?_eq_getElem h]
  rfl
theorem dr_ok (H : RowIn row K N c M) : (pDeg (cdivof row) > 0 → ∀ p ∈ row, DOk p (cdivof row)) ∧ ∃ D l, DR row c D l := by
  obtain ⟨_, g, C, e⟩ := ci_run H row.length
  have e : cdivof row = monic g := e
  by_cases hd : pDeg (cdivof row) > 0
  · rw [e] at hd
    have hlen : 2 ≤ (monic g).co.length := by unfold pDeg at hd; omega
    have hz : pZ g = false := by
      cases hz : pZ g with
      | false => rfl
      | true =>
        have h1 := len_monic g
        rw [pz_nil hz] at h1
        have : (monic g).co.length ≤ 0 := h1
        omega
    have hnb := ci_bound H C C.pr (pp_refl g)
    have hlb : LB c g.co := lg_nrm (Nat.lt_of_le_of_lt hnb H.kb)
    have hmz : pZ (monic g) = false := decide_eq_false (by omega)
    have hmn := pz_false (pok_monic C.pr.wh) hmz
    have hl := ld_ne C.pr.wh hz
    have hcof : ∀ j, j < row.length → ∃ f, Tr f ∧ ∀ x, ev (row.getD j p0).co x = ev g.co x * ev f x := fun j hj => by
      obtain ⟨f, cc, hc, e2⟩ := C.dv j hj
      exact cofactor (C.pr.cont hz) hc e2
    refine ⟨fun _ p hp => ?_, g.co, ldI g, C.pr.wh.ok.tr, fun z => ?_, C.ln, hl, lg_getD hlb _, fun j hj => ?_⟩
    · obtain ⟨j, hj, rfl⟩ := List.getElem_of_mem hp
      have ej : row[j] = row.getD j p0 := by rw [List.getD_eq_getElem?_getD, List.getElem?_eq_getElem hj]; rfl
      rw [ej, e]
      obtain ⟨q1, q2, _⟩ := lead_f C.pr.wh hz
      have zg : Sz c g := ⟨C.pr.wh.ok.ne, by rw [C.pr.wh.one, lg_one]; exact Nat.zero_le _, hlb⟩
      have zm : Sz (c + (0 + c + 1) + 1) (monic g) := by
        rw [monic_eq hz]
        exact sz_pScaled zg (sz_fOver szf_f1 (sz_pLead zg) q1)
      have hden : lg (row.getD j p0).den ≤ 99 := by
        refine lg_lt (Nat.lt_of_le_of_lt ?_ H.m100)
        exact Nat.le_of_dvd (Int.natAbs_pos.mpr (by have := H.m0; omega)) (Int.natAbs_dvd_natAbs.mpr (H.dn j))
      refine ⟨c, 99, _, _, ⟨(H.ok j).ne, hden, H.lb j⟩, zm.s2, hmn, ?_, ?_, ?_⟩
      · have h1 := H.ln j
        have h2 := H.K14
        have h3 := H.c664
        have h4 : dlen (row.getD j p0).co (monic g).co ≤ 16 := by unfold dlen; omega
        have h5 := Nat.mul_le_mul_right (c + (0 + c + 1) + 1 + 2) h4
        omega
      · have h1 := H.ln j
        have h2 := H.K14
        omega
      · have h1 := len_monic g
        have h2 := C.ln
        omega
    · have := (pz_false C.pr.wh.ok hz).1
      rw [z] at this
      exact this rfl
    · obtain ⟨f, tf, hf⟩ := hcof j hj
      refine ⟨f, tf, hf, ?_⟩
      have er : dRow row = row.map fun p => pExact p (monic g) := by
        unfold dRow
        rw [e, if_pos hd]
      rw [er, getD_mapP _ _ _ hj]
      refine exact_eq (H.ok j).ne (pok_monic C.pr.wh).ne hmn (H.ok j).ne (Evt.all fun x => ?_)
      rw [pv_monic C.pr.wh hz, ev_psm]
      have h1 := den_ne hl
      have h2 := den_ne (H.ok j).ne
      unfold pv
      rw [hf x]
      push_cast
      grind
  · refine ⟨fun h => absurd h hd, [1], 1, .inr (by decide), by simp, by decide, by decide, by rw [lg_one]; exact Nat.zero_le _, fun j hj => ⟨(row.getD j p0).co, (H.ok j).tr, fun x => ?_, ?_⟩⟩
    · have : ev [1] x = 1 := by show 1 + x * 0 = _; omega
      rw [this, Int.one_mul]
    · have er : dRow row = row := by
        unfold dRow
        rw [if_neg hd]
      have e1 : psm 1 (row.getD j p0).co = (row.getD j p0).co := by
        unfold psm
        rw [List.map_congr_left (g := id) (fun a _ => Int.one_mul a), List.map_id]
      rw [er, e1, mkP_self (H.ok j)]
end
end G
end
section
/-! The whole row: primitive_row. -/
namespace G
theorem lcmI_dvd {a b M : Int} (h1 : a ∣ M) (h2 : b ∣ M) : lcmI a b ∣ M := by
  unfold lcmI
  exact Int.natAbs_dvd_natAbs.mp (by rw [Int.natAbs_natCast]; exact Nat.lcm_dvd (Int.natAbs_dvd_natAbs.mpr h1) (Int.natAbs_dvd_natAbs.mpr h2))
theorem wMult_dvdM {row : List Po} {M : Int} (h : ∀ j, (row.getD j p0).den ∣ M) : ∀ n, wMult row n ∣ M
  | 0 => Int.one_dvd M
  | n + 1 => lcmI_dvd (wMult_dvdM h n) (h n)
theorem wDivE_dvd (p : Po) (m d : Int) : ∀ n, wDivE p m d n ∣ d ∧ ∀ j, j < n → wDivE p m d n ∣ p.co.getD j 0 * m.fdiv p.den
  | 0 => ⟨Int.dvd_refl d, fun j h => absurd h (by omega)⟩
  | n + 1 => by
    obtain ⟨h1, h2⟩ := wDivE_dvd p m d n
    have e : wDivE p m d (n + 1) = gcdI (wDivE p m d n) (p.co.getD n 0 * m.fdiv p.den) := rfl
    rw [e]
    refine ⟨Int.dvd_trans (gcdI_dvd_left _ _) h1, fun j hj => ?_⟩
    by_cases hjn : j = n
    · subst hjn; exact gcdI_dvd_right _ _
    · exact Int.dvd_trans (gcdI_dvd_left _ _) (h2 j (by omega))
theorem wDivE_great {u k : Int} {p : Po} {m d : Int} (h : ∀ j, u ∣ p.co.getD j 0 * m.fdiv p.den * k) (hd : u ∣ d * k) : ∀ n, u ∣ wDivE p m d n * k
  | 0 => hd
  | n + 1 => dvd_gcdI_mul (wDivE_great h hd n) (h n)
theorem wDivN_dvd (row : List Po) (m : Int) : ∀ n i, i < n → ∀ j, wDivN row m n ∣ (row.getD i p0).co.getD j 0 * m.fdiv (row.getD i p0).den
  | 0, i, h => absurd h (by omega)
  | n + 1, i, hi => by
    intro j
    have e : wDivN row m (n + 1) = wDivE (row.getD n p0) m (wDivN row m n) (row.getD n p0).co.length := rfl
    obtain ⟨h1, h2⟩ := wDivE_dvd (row.getD n p0) m (wDivN row m n) (row.getD n p0).co.length
    rw [e]
    by_cases hin : i = n
    · subst hin
      by_cases hj : j < (row.getD i p0).co.length
      · exact h2 j hj
      · rw [getD_out (l := (row.getD i p0).co) (by omega), Int.zero_mul]; exact Int.dvd_zero _
    · exact Int.dvd_trans h1 (wDivN_dvd row m n i (by omega) j)
theorem wDivN_great {u k : Int} {row : List Po} {m : Int} (h : ∀ i j, u ∣ (row.getD i p0).co.getD j 0 * m.fdiv (row.getD i p0).den * k) : ∀ n, u ∣ wDivN row m n * k
  | 0 => by show u ∣ 0 * k; rw [Int.zero_mul]; exact Int.dvd_zero u
  | n + 1 => wDivE_great (h n) (wDivN_great h n) _
theorem tr_len2 {l m : List Int} (hl : Tr l) (h : ∀ i, m.getD i 0 = 0 → l.getD i 0 = 0) : l.length ≤ m.length := by
  rcases hl with rfl | hl
  · exact Nat.zero_le _
  · apply Decidable.byContradiction
    intro z
    exact hl (h _ (getD_out (by omega)))
theorem lb_psm {l : Int} {f : List Int} {a b : Nat} (h1 : lg l ≤ a) (h2 : LB b f) : LB (a + b + 1) (psm l f) := fun c hc => by
  obtain ⟨y, hy, rfl⟩ := List.mem_map.mp hc
  exact lg_mulb h1 (h2 y hy)
theorem den_mkP_dvd (cs : List Int) {d : Int} (hd : d ≠ 0) : (mkP cs d).den ∣ d := by
  have hs : sgnd (gcdI (content (trim cs)) d) d ≠ 0 := sgnd_ne (gcdI_ne hd)
  exact ⟨_, (fdiv_mul (sgnd_dvd.mpr (gcdI_dvd_right _ d) : sgnd (gcdI (content (trim cs)) d) d ∣ d) hs).symm⟩
theorem mem_getD {l : List Po} {p : Po} (h : p ∈ l) : ∃ j, j < l.length ∧ p = l.getD j p0 := by
  obtain ⟨j, hj, rfl⟩ := List.getElem_of_mem h
  exact ⟨j, hj, by rw [List.getD_eq_getElem?_getD, List.getElem?_eq_getElem hj]; rfl⟩
theorem getD_outP {l : List Po} {j : Nat} (h : l.length ≤ j) : l.getD j p0 = p0 := by
  rw [List.getD_eq_getElem?_getD, List.getElem?_eq_none h]; rfl
section
variable {row : List Po} {K N c : Nat} {M : Int} {D : List Int} {l : Int}
theorem f_bound (H : RowIn row K N c M) (d : DR row c D l) {j : Nat} {f : List Int} (tf : Tr f) (hf : ∀ x, ev (row.getD j p0).co x = ev D x * ev f x) : nrm f ≤ N * K ^ K * (2 * K + 3) ^ K ∧ f.length ≤ (row.getD j p0).co.length := by
  refine ⟨kron H.K1 d.td tf d.dz hf (H.ln j) (H.nm j), ?_⟩
  by_cases e : f = []
  · rw [e]; exact Nat.zero_le _
  · have h1 := len_mul d.td tf d.dz e hf
    have h2 : 0 < D.length := List.length_pos_iff.mpr d.dz
    omega
theorem dr_all (H : RowIn row K N c M) (d : DR row c D l) (j : Nat) : POk ((dRow row).getD j p0) ∧ ((dRow row).getD j p0).den ∣ M ∧ LB (c + c + 1) ((dRow row).getD j p0).co ∧ ((dRow row).getD j p0).co.length ≤ 15 := by
  by_cases hj : j < row.length
  · obtain ⟨f, tf, hf, e⟩ := d.ent j hj
    obtain ⟨b1, b2⟩ := f_bound H d tf hf
    rw [e]
    refine ⟨pok_mkP _ (H.ok j).ne, Int.dvd_trans (den_mkP_dvd _ (H.ok j).ne) (H.dn j), lb_mkP (H.ok j).ne (lb_psm d.lc (lg_nrm (Nat.lt_of_le_of_lt b1 H.kb))), ?_⟩
    refine Nat.le_trans (len_mkP_le _ _) ?_
    rw [len_psm]
    have h1 := H.ln j
    have h2 := H.K14
    omega
  · rw [getD_outP (by rw [dRow_len]; omega)]
    exact ⟨pok_p0, ⟨M, by show M = 1 * M; omega⟩, fun x hx => (by cases hx), by decide⟩
theorem prow_ok (H : RowIn row K N c M) : PRowOk row := by
  obtain ⟨h1, D, l, d⟩ := dr_ok H
  have hM := H.m0
  refine ⟨(ci_run H row.length).1, h1, ⟨⟨c + c + 1, fun p hp => ?_, by have := H.c664; omega⟩, fun i _ => ?_, by rw [dRow_len]; exact H.len⟩, H.len⟩
  · obtain ⟨j, hj, rfl⟩ := mem_getD hp
    obtain ⟨a1, a2, a3, a4⟩ := dr_all H d j
    refine ⟨⟨a1.ne, lg_lt (Nat.lt_of_le_of_lt (Nat.le_of_dvd (Int.natAbs_pos.mpr (by omega)) (Int.natAbs_dvd_natAbs.mpr a2)) H.m100), a3⟩, by omega⟩
  · exact Nat.lt_of_le_of_lt (Nat.le_of_dvd (Int.natAbs_pos.mpr (by omega)) (Int.natAbs_dvd_natAbs.mpr (wMult_dvdM (fun j => (dr_all H d j).2.1) i))) H.m100
/-- what primitive_row gives -/
theorem prow_spec (H : RowIn row K N c M) : ∃ (D : List Int) (q : Int), D ≠ [] ∧ Tr D ∧ D.length ≤ 15 ∧ q ≠ 0 ∧ ∀ j, j < row.length → WhP ((pRow row).getD j p0) ∧ nrm ((pRow row).getD j p0).co ≤ M.natAbs * (N * K ^ K * (2 * K + 3) ^ K) ∧ ((pRow row).getD j p0).co.length ≤ (row.getD j p0).co.length ∧ ∀ x, (M : Rat) * pv (row.getD j p0) x = (q : Rat) * (ev D x : Rat) * (ev ((pRow row).getD j p0).co x : Rat) := by
  obtain ⟨_, D, l, d⟩ := dr_ok H
  have hM := H.m0
  have hmd := wMult_dvdM (fun j => (dr_all H d j).2.1) (dRow row).length
  have hm0 : wMult (dRow row) (dRow row).length ≠ 0 := fun z => by
    rw [z] at hmd
    have := Int.zero_dvd.mp hmd
    omega
  -- the pieces of an entry
  have ent : ∀ j, j < row.length → ∃ (f : List Int) (s t : Int), Tr f ∧ (∀ x, ev (row.getD j p0).co x = ev D x * ev f x) ∧ s ≠ 0 ∧ s = (wMult (dRow row) (dRow row).length).fdiv ((dRow row).getD j p0).den ∧ s * ((dRow row).getD j p0).den = wMult (dRow row) (dRow row).length ∧ t * (row.getD j p0).den = M ∧ t.natAbs ≤ M.natAbs ∧ (∀ i, M * (((dRow row).getD j p0).co.getD i 0 * s) = wMult (dRow row) (dRow row).length * l * (t * f.getD i 0)) ∧ POk ((dRow row).getD j p0) := fun j hj => by
    obtain ⟨f, tf, hf, e⟩ := d.ent j hj
    have hok := (dr_all H d j).1
    have hs := fdiv_mul (wMult_dvd (dRow row) (dRow row).length j (by rw [dRow_len]; exact hj)) hok.ne
    have ht := fdiv_mul (H.dn j) (H.ok j).ne
    refine ⟨f, _, M.fdiv (row.getD j p0).den, tf, hf, fun z => ?_, rfl, hs, ht, ?_, fun i => ?_, hok⟩
    · rw [z, Int.zero_mul] at hs
      exact hm0 hs.symm
    · have h1 := congrArg Int.natAbs ht
      rw [Int.natAbs_mul] at h1
      have h2 : 0 < (row.getD j p0).den.natAbs := Int.natAbs_pos.mpr (H.ok j).ne
      have h3 := Nat.le_mul_of_pos_right (M.fdiv (row.getD j p0).den).natAbs h2
      omega
    · have h1 := getD_mkP (psm l f) (H.ok j).ne i
      rw [← e, getD_psm] at h1
      generalize (wMult (dRow row) (dRow row).length).fdiv ((dRow row).getD j p0).den = s at *
      generalize M.fdiv (row.getD j p0).den = t at *
      rw [← ht, ← hs]
      generalize ((dRow row).getD j p0).co.getD i 0 = a at *
      generalize ((dRow row).getD j p0).den = dd at *
      generalize (row.getD j p0).den = de at *
      generalize f.getD i 0 = y at *
      grind
  have hdd := wDivN_dvd (dRow row) (wMult (dRow row) (dRow row).length) (dRow row).length
  by_cases hdv : wDiv (dRow row) = 0
  · refine ⟨D, 1, d.dz, d.td, d.dl, by decide, fun j hj => ?_⟩
    obtain ⟨f, s, t, tf, hf, hs0, hse, hs, ht, htM, key, hok⟩ := ent j hj
    have er : pRow row = dRow row := by
      show wRow (dRow row) = _
      unfold wRow
      rw [if_pos hdv]
    have hz : ∀ i, ((dRow row).getD j p0).co.getD i 0 = 0 := fun i => by
      have h1 := hdd j (by rw [dRow_len]; exact hj) i
      have e2 : wDivN (dRow row) (wMult (dRow row) (dRow row).length) (dRow row).length = 0 := hdv
      rw [e2] at h1
      rw [← hse] at h1
      exact (Int.mul_eq_zero.mp (Int.zero_dvd.mp h1)).resolve_right hs0
    have e0 : (dRow row).getD j p0 = p0 := pok_eq hok pok_p0 fun i => by
      rw [hz i, Int.zero_mul]
      show 0 = ([] : List Int).getD i 0 * _
      simp
    have ht0 : t ≠ 0 := fun z => by rw [z, Int.zero_mul] at ht; omega
    have hf0 : ∀ i, f.getD i 0 = 0 := fun i => by
      have h1 := key i
      rw [hz i, Int.zero_mul, Int.mul_zero] at h1
      have h2 := (Int.mul_eq_zero.mp h1.symm).resolve_left (mul_ne hm0 d.l0)
      exact (Int.mul_eq_zero.mp h2).resolve_left ht0
    rw [er, e0]
    refine ⟨wh_p0, Nat.zero_le _, Nat.zero_le _, fun x => ?_⟩
    have h1 : ev (row.getD j p0).co x = 0 := by rw [hf x, ev_zero hf0, Int.mul_zero]
    have h2 : ev p0.co x = 0 := rfl
    unfold pv
    rw [h1, h2]
    grind
  · obtain ⟨q, hq⟩ : wMult (dRow row) (dRow row).length * l ∣ wDiv (dRow row) * M := wDivN_great (fun i j => by
      by_cases hi : i < row.length
      · obtain ⟨f, s, t, tf, hf, hs0, hse, hs, ht, htM, key, hok⟩ := ent i hi
        rw [← hse, Int.mul_comm _ M, key j]
        exact Int.dvd_mul_right _ _
      · rw [getD_outP (by rw [dRow_len]; omega)]
        show _ ∣ ([] : List Int).getD j 0 * _ * _
        simp) _
    have hq0 : q ≠ 0 := fun z => by
      rw [z, Int.mul_zero] at hq
      rcases Int.mul_eq_zero.mp hq with y | y
      · exact hdv y
      · omega
    refine ⟨D, q, d.dz, d.td, d.dl, hq0, fun j hj => ?_⟩
    obtain ⟨f, s, t, tf, hf, hs0, hse, hs, ht, htM, key, hok⟩ := ent j hj
    have er : (pRow row).getD j p0 = pScaled ((dRow row).getD j p0) (mkF (wMult (dRow row) (dRow row).length) (wDiv (dRow row))) := by
      show (wRow (dRow row)).getD j p0 = _
      unfold wRow
      rw [if_neg hdv, getD_mapP _ _ _ (by rw [dRow_len]; exact hj)]
    have hdiv : ∀ i, wDiv (dRow row) ∣ (psm s ((dRow row).getD j p0).co).getD i 0 := fun i => by
      have h1 := hdd j (by rw [dRow_len]; exact hj) i
      rw [← hse] at h1
      rw [getD_psm, Int.mul_comm]
      exact h1
    obtain ⟨g, _, hg⟩ := list_div hdiv hdv
    have hgf : ∀ i, q * g.getD i 0 = t * f.getD i 0 := fun i => by
      refine Int.eq_of_mul_eq_mul_left (mul_ne hm0 d.l0) ?_
      rw [← key i]
      have h1 := hg i
      rw [getD_psm] at h1
      generalize wMult (dRow row) (dRow row).length = m at *
      generalize wDiv (dRow row) = dv at *
      generalize ((dRow row).getD j p0).co.getD i 0 = a at *
      generalize g.getD i 0 = y at *
      grind
    have hev : ∀ x, s * ev ((dRow row).getD j p0).co x = wDiv (dRow row) * ev g x := fun x => by
      rw [← ev_psm, ← ev_psm]
      exact ev_of_coef (fun i => by rw [hg, getD_psm]) x
    have e1 : (pRow row).getD j p0 = mkP g 1 := by
      rw [er]
      have hfo := fok_mkF (wMult (dRow row) (dRow row).length) hdv
      refine pv_eq (pok_scaled hok.ne hfo.ne) (pok_mkP _ (by decide)) (Evt.all fun x => ?_)
      rw [pv_scaled x hok.ne hfo.ne, fv_mkF _ hdv, pv_mkP _ (by decide)]
      have h1 := hev x
      have h2 := den_ne hok.ne
      have h3 := den_ne hdv
      have h4 : (s : Rat) * (ev ((dRow row).getD j p0).co x : Rat) = (wDiv (dRow row) : Rat) * (ev g x : Rat) := by exact_mod_cast h1
      have h5 : (s : Rat) * (((dRow row).getD j p0).den : Rat) = (wMult (dRow row) (dRow row).length : Rat) := by exact_mod_cast hs
      unfold pv
      rw [← h5]
      grind
    obtain ⟨b1, b2⟩ := f_bound H d tf hf
    have hco : ∀ i, ((pRow row).getD j p0).co.getD i 0 = g.getD i 0 := fun i => by rw [e1, mkP_one]; exact getD_trim g i
    have hwh : WhP ((pRow row).getD j p0) := by rw [e1]; exact wh_mkP g
    refine ⟨hwh, ?_, ?_, fun x => ?_⟩
    · have h1 : nrm ((pRow row).getD j p0).co ≤ nrm (psm t f) := nrm_le_of fun i => by
        rw [hco, getD_psm, ← hgf, Int.natAbs_mul]
        exact Nat.le_mul_of_pos_left _ (Int.natAbs_pos.mpr hq0)
      rw [nrm_psm] at h1
      exact Nat.le_trans h1 (Nat.mul_le_mul htM b1)
    · refine Nat.le_trans (tr_len2 hwh.ok.tr fun i hi => ?_) b2
      have h1 := hgf i
      rw [hi, Int.mul_zero] at h1
      rw [hco]
      exact (Int.mul_eq_zero.mp h1).resolve_left hq0
    · have h1 : q * ev g x = t * ev f x := by
        rw [← ev_psm, ← ev_psm]
        exact ev_of_coef (fun i => by rw [getD_psm, getD_psm, hgf]) x
      have h2 : ev ((pRow row).getD j p0).co x = ev g x := ev_of_coef hco x
      rw [h2]
      have h3 : (q : Rat) * (ev g x : Rat) = (t : Rat) * (ev f x : Rat) := by exact_mod_cast h1
      have h4 : (t : Rat) * ((row.getD j p0).den : Rat) = (M : Rat) := by exact_mod_cast ht
      have h5 := den_ne (H.ok j).ne
      unfold pv
      rw [hf x, ← h4]
      push_cast
      grind
end
end G
end
section
/-! Values in two variables. -/
namespace G
theorem rpow_add (y : Rat) (i : Nat) : ∀ m, y ^ (i + m) = y ^ i * y ^ m
  | 0 => by rw [Nat.add_zero, Rat.pow_zero]; grind
  | m + 1 => by
    rw [show i + (m + 1) = (i + m) + 1 by omega, Rat.pow_succ, Rat.pow_succ, rpow_add y i m]
    grind
def qv : List Po → Int → Rat → Rat
  | [], _, _ => 0
  | p :: l, n, y => pv p n + y * qv l n y
def DN (l : List Po) : Prop := ∀ j, (l.getD j p0).den ≠ 0
theorem dn_p0 : p0.den ≠ 0 := by decide
theorem dn_cons {p : Po} {l : List Po} : DN (p :: l) ↔ p.den ≠ 0 ∧ DN l :=
  ⟨fun h => ⟨by simpa using h 0, fun j => by simpa using h (j + 1)⟩, fun h j => by
    cases j with
    | zero => simpa using h.1
    | succ j => simpa using h.2 j⟩
theorem dn_of {l : List Po} (h : ∀ p ∈ l, p.den ≠ 0) : DN l := fun j => by
  rw [List.getD_eq_getElem?_getD]
  cases e : l[j]? with
  | none => exact dn_p0
  | some x => exact h x (List.mem_of_getElem? e)
theorem dn_take {l : List Po} (h : DN l) (n : Nat) : DN (l.take n) := fun j => by
  rw [List.getD_eq_getElem?_getD, List.getElem?_take]
  split
  · rw [← List.getD_eq_getElem?_getD]; exact h j
  · exact dn_p0
section
variable (n : Int) (y : Rat)
theorem qv_take_succ : ∀ (l : List Po) (m : Nat), qv (l.take (m + 1)) n y = qv (l.take m) n y + pv (l.getD m p0) n * y ^ m
  | [], m => by
    rw [List.take_nil, List.take_nil]
    show (0 : Rat) = 0 + pv p0 n * y ^ m
    rw [pv_p0]; grind
  | p :: l, 0 => by
    show pv p n + y * qv (l.take 0) n y = 0 + pv ((p :: l).getD 0 p0) n * y ^ 0
    rw [List.take_zero, show (p :: l).getD 0 p0 = p by simp, Rat.pow_zero]
    show pv p n + y * 0 = _
    grind
  | p :: l, m + 1 => by
    show pv p n + y * qv (l.take (m + 1)) n y = (pv p n + y * qv (l.take m) n y) + pv ((p :: l).getD (m + 1) p0) n * y ^ (m + 1)
    rw [qv_take_succ l m, show (p :: l).getD (m + 1) p0 = l.getD m p0 by simp, Rat.pow_succ]
    grind
theorem qv_sum (l : List Po) {m : Nat} (h : l.length ≤ m) : qv l n y = sumQ m fun i => pv (l.getD i p0) n * y ^ i := by
  have k : ∀ m, qv (l.take m) n y = sumQ m fun i => pv (l.getD i p0) n * y ^ i := fun m => by
    induction m with
    | zero => rw [List.take_zero]; rfl
    | succ m ih =>
      rw [qv_take_succ, ih]
      rfl
  rw [← k m, List.take_of_length_le h]
theorem qv_lin {l a b : List Po} {u v : Rat} (h : ∀ i, pv (l.getD i p0) n = u * pv (a.getD i p0) n + v * pv (b.getD i p0) n) : qv l n y = u * qv a n y + v * qv b n y := by
  have hm : l.length ≤ max l.length (max a.length b.length) ∧ a.length ≤ max l.length (max a.length b.length) ∧ b.length ≤ max l.length (max a.length b.length) := by omega
  rw [qv_sum n y l hm.1, qv_sum n y a hm.2.1, qv_sum n y b hm.2.2, ← sumQ_mul, ← sumQ_mul, ← sumQ_add]
  exact sumQ_congr fun i _ => by rw [h i]; grind
theorem qv_same {l a : List Po} (h : ∀ i, pv (l.getD i p0) n = pv (a.getD i p0) n) : qv l n y = qv a n y := by
  rw [qv_lin n y (l := l) (a := a) (b := []) (u := 1) (v := 0) fun i => by rw [h i]; grind]
  grind
theorem qv_set : ∀ (l : List Po) (i : Nat) (v : Po), i < l.length → qv (l.set i v) n y = qv l n y + (pv v n - pv (l.getD i p0) n) * y ^ i
  | [], i, v, h => by cases h
  | p :: l, 0, v, _ => by
    show pv v n + y * qv l n y = (pv p n + y * qv l n y) + (pv v n - pv ((p :: l).getD 0 p0) n) * y ^ 0
    rw [show (p :: l).getD 0 p0 = p by simp, Rat.pow_zero]
    grind
  | p :: l, i + 1, v, h => by
    show pv p n + y * qv (l.set i v) n y = (pv p n + y * qv l n y) + (pv v n - pv ((p :: l).getD (i + 1) p0) n) * y ^ (i + 1)
    rw [qv_set l i v (by simpa using h), show (p :: l).getD (i + 1) p0 = l.getD i p0 by simp, Rat.pow_succ]
    grind
end
theorem pv_pz {p : Po} (h : pZ p = true) (n : Int) : pv p n = 0 := by
  have e1 : p.co = [] := List.eq_nil_of_length_eq_zero (of_decide_eq_true h)
  unfold pv
  rw [e1]
  show ((0 : Int) : Rat) / _ = 0
  grind
theorem getD_mkQ (l : List Po) (i : Nat) (n : Int) : pv ((mkQ l).getD i p0) n = pv (l.getD i p0) n := by
  unfold mkQ trimBy
  rw [List.getD_eq_getElem?_getD, List.getD_eq_getElem?_getD, List.getElem?_take]
  split
  · rfl
  · rename_i h
    show pv p0 n = _
    rw [pv_p0]
    cases e : l[i]? with
    | none => exact (pv_p0 n).symm
    | some x => exact (pv_pz (trimLen_out pZ l i x (by omega) e) n).symm
theorem qv_mkQ (l : List Po) (n : Int) (y : Rat) : qv (mkQ l) n y = qv l n y := qv_same n y fun i => getD_mkQ l i n
theorem qRow_eq (q : Q2) (i : Nat) : qRow q i = q.getD i p0 := by
  unfold qRow
  split
  · rfl
  · rename_i h
    rw [List.getD_eq_getElem?_getD, List.getElem?_eq_none (by omega)]; rfl
/-! ### canonical -/
structure QOk (q : Q2) : Prop where
  ok : ∀ j, POk (q.getD j p0)
  tr : q = [] ∨ pZ (q.getD (q.length - 1) p0) = false
theorem QOk.dn {q : Q2} (h : QOk q) : DN q := fun j => (h.ok j).ne
theorem qok_mkQ {l : List Po} (h : ∀ j, POk (l.getD j p0)) : QOk (mkQ l) := by
  refine ⟨fun j => ?_, ?_⟩
  · unfold mkQ trimBy
    rw [List.getD_eq_getElem?_getD, List.getElem?_take]
    split
    · rw [← List.getD_eq_getElem?_getD]; exact h j
    · exact pok_p0
  · cases e : trimLen pZ l with
    | zero =>
      left
      unfold mkQ trimBy
      rw [e, List.take_zero]
    | succ m =>
      right
      obtain ⟨x, h1, h2⟩ := trimLen_last pZ l m e
      have hl : (mkQ l).length = m + 1 := by unfold mkQ; rw [trimBy_len, e]
      rw [hl]
      unfold mkQ trimBy
      rw [List.getD_eq_getElem?_getD, List.getElem?_take, if_pos (by omega), show m + 1 - 1 = m by omega, h1]
      exact h2
theorem pok_all {l : List Po} (h : ∀ p ∈ l, POk p) (j : Nat) : POk (l.getD j p0) := by
  rw [List.getD_eq_getElem?_getD]
  cases e : l[j]? with
  | none => exact pok_p0
  | some x => exact h x (List.mem_of_getElem? e)
/-! ### operations -/
section
variable {a b : Q2}
theorem getD_rangeP (m : Nat) (f : Nat → Po) (i : Nat) : ((List.range m).map f).getD i p0 = if i < m then f i else p0 := by
  rw [List.getD_eq_getElem?_getD, List.getElem?_map]
  split
  · rename_i h; rw [List.getElem?_range h]; rfl
  · rename_i h; rw [List.getElem?_eq_none (by rw [List.length_range]; omega)]; rfl
theorem getD_outQ {l : List Po} {j : Nat} (h : l.length ≤ j) : l.getD j p0 = p0 := by
  rw [List.getD_eq_getElem?_getD, List.getElem?_eq_none h]; rfl
theorem qok_add (ha : DN a) (hb : DN b) : QOk (qAdd a b) := qok_mkQ fun j => by
  rw [getD_rangeP]
  split
  · rw [qRow_eq, qRow_eq]; exact pok_add (ha j) (hb j)
  · exact pok_p0
theorem qv_add (ha : DN a) (hb : DN b) (n : Int) (y : Rat) : qv (qAdd a b) n y = qv a n y + qv b n y := by
  have := qv_lin n y (l := qAdd a b) (a := a) (b := b) (u := 1) (v := 1) fun i => by
    unfold qAdd
    rw [getD_mkQ, getD_rangeP]
    split
    · rw [qRow_eq, qRow_eq, pv_add n (ha i) (hb i)]; grind
    · rw [getD_outQ (l := a) (by omega), getD_outQ (l := b) (by omega), pv_p0]; grind
  rw [this]; grind
theorem getD_mapN (l : List Po) (f : Po → Po) (h : f p0 = p0) (i : Nat) : (l.map f).getD i p0 = f (l.getD i p0) := by
  rw [List.getD_eq_getElem?_getD, List.getD_eq_getElem?_getD, List.getElem?_map]
  cases l[i]? with
  | none => exact h.symm
  | some x => rfl
theorem pneg_p0 : pNeg p0 = p0 := by decide
theorem qok_neg (ha : DN a) : QOk (qNeg a) := qok_mkQ fun j => by
  rw [getD_mapN _ _ pneg_p0]; exact pok_neg (ha j)
theorem qv_neg (ha : DN a) (n : Int) (y : Rat) : qv (qNeg a) n y = -qv a n y := by
  have := qv_lin n y (l := qNeg a) (a := a) (b := []) (u := -1) (v := 0) fun i => by
    unfold qNeg
    rw [getD_mkQ, getD_mapN _ _ pneg_p0, pv_neg n (ha i)]
    grind
  rw [this]; grind
theorem qok_sub (ha : DN a) (hb : DN b) : QOk (qSub a b) := qok_add ha (qok_neg hb).dn
theorem qv_sub (ha : DN a) (hb : DN b) (n : Int) (y : Rat) : qv (qSub a b) n y = qv a n y - qv b n y := by
  unfold qSub
  rw [qv_add ha (qok_neg hb).dn, qv_neg hb]; grind
theorem dn_set {l : List Po} {v : Po} (h : DN l) (hv : v.den ≠ 0) (i : Nat) : DN (l.set i v) := fun j => by
  rw [getD_setP]
  split
  · split
    · exact hv
    · exact dn_p0
  · exact h j
theorem pok_set {l : List Po} {v : Po} (h : ∀ j, POk (l.getD j p0)) (hv : POk v) (i j : Nat) : POk ((l.set i v).getD j p0) := by
  rw [getD_setP]
  split
  · split
    · exact hv
    · exact pok_p0
  · exact h j
theorem qv_mulIn {u : Po} (hu : u.den ≠ 0) (i : Nat) {l s : List Po} (hl : DN l) (hs : ∀ j, POk (s.getD j p0)) (n : Int) (y : Rat) : ∀ m, m ≤ l.length → i + m ≤ s.length →
    (∀ j, POk ((qMulIn u i l m s).getD j p0)) ∧ qv (qMulIn u i l m s) n y = qv s n y + pv u n * y ^ i * qv (l.take m) n y
  | 0, _, _ => ⟨hs, by
    show qv s n y = qv s n y + pv u n * y ^ i * qv (l.take 0) n y
    rw [List.take_zero]
    show _ = _ + _ * 0
    grind⟩
  | m + 1, h1, h2 => by
    obtain ⟨k, ih⟩ := qv_mulIn hu i hl hs n y m (by omega) (by omega)
    have hm := pok_mul hu (hl m)
    have e : qMulIn u i l (m + 1) s = (qMulIn u i l m s).set (i + m) (pAdd ((qMulIn u i l m s).getD (i + m) p0) (pMul u (l.getD m p0))) := rfl
    rw [e]
    refine ⟨pok_set k (pok_add (k _).ne hm.ne) _, ?_⟩
    rw [qv_set n y _ _ _ (by rw [qMulIn_len]; omega), ih, pv_add n (k _).ne hm.ne, pv_mul n hu (hl m), qv_take_succ, rpow_add]
    grind
theorem qv_mulOut {k l s : List Po} (hk : DN k) (hl : DN l) (hs : ∀ j, POk (s.getD j p0)) (n : Int) (y : Rat) : ∀ m, m ≤ k.length → k.length + l.length ≤ s.length →
    (∀ j, POk ((qMulOut k l m s).getD j p0)) ∧ qv (qMulOut k l m s) n y = qv s n y + qv (k.take m) n y * qv l n y
  | 0, _, _ => ⟨hs, by
    show qv s n y = qv s n y + qv (k.take 0) n y * qv l n y
    rw [List.take_zero]
    show _ = _ + 0 * _
    grind⟩
  | m + 1, h1, h2 => by
    obtain ⟨g, ih⟩ := qv_mulOut hk hl hs n y m (by omega) h2
    obtain ⟨g2, ih2⟩ := qv_mulIn (hk m) m hl g n y l.length (Nat.le_refl _) (by rw [qMulOut_len]; omega)
    have e : qMulOut k l (m + 1) s = qMulIn (k.getD m p0) m l l.length (qMulOut k l m s) := rfl
    rw [e]
    refine ⟨g2, ?_⟩
    rw [ih2, ih, List.take_length, qv_take_succ]
    grind
theorem qv_rep (m : Nat) (n : Int) (y : Rat) : qv (List.replicate m p0) n y = 0 := by
  have := qv_same n y (l := List.replicate m p0) (a := []) fun i => by rw [rep_getDP]; rfl
  rw [this]; rfl
theorem qmul_all (ha : DN a) (hb : DN b) (n : Int) (y : Rat) : QOk (qMul a b) ∧ qv (qMul a b) n y = qv a n y * qv b n y := by
  obtain ⟨g, h⟩ := qv_mulOut ha hb (s := List.replicate (a.length + b.length) p0) (fun j => by rw [rep_getDP]; exact pok_p0) n y a.length (Nat.le_refl _) (by rw [List.length_replicate]; exact Nat.le_refl _)
  refine ⟨qok_mkQ g, ?_⟩
  unfold qMul
  rw [qv_mkQ, h, qv_rep, List.take_length]
  grind
theorem qok_mul (ha : DN a) (hb : DN b) : QOk (qMul a b) := (qmul_all ha hb 0 0).1
theorem qv_mul (ha : DN a) (hb : DN b) (n : Int) (y : Rat) : qv (qMul a b) n y = qv a n y * qv b n y := (qmul_all ha hb n y).2
theorem qok_q1 : QOk q1 := qok_mkQ (pok_all fun p hp => by rw [List.mem_singleton.mp hp]; exact pok_p1)
theorem qv_q1 (n : Int) (y : Rat) : qv q1 n y = 1 := by
  unfold q1
  rw [qv_mkQ]
  show pv p1 n + y * 0 = 1
  rw [pv_p1]; grind
theorem qpow_all (ha : DN a) (n : Int) (y : Rat) : ∀ m, QOk (qPow a m) ∧ qv (qPow a m) n y = qv a n y ^ m
  | 0 => ⟨qok_q1, by rw [Rat.pow_zero]; exact qv_q1 n y⟩
  | m + 1 => by
    obtain ⟨g, h⟩ := qpow_all ha n y m
    have e : qPow a (m + 1) = qMul (qPow a m) a := rfl
    rw [e]
    exact ⟨qok_mul g.dn ha, by rw [qv_mul g.dn ha, h, Rat.pow_succ]⟩
theorem qok_pow (ha : DN a) (m : Nat) : QOk (qPow a m) := (qpow_all ha 0 0 m).1
theorem qv_pow (ha : DN a) (m : Nat) (n : Int) (y : Rat) : qv (qPow a m) n y = qv a n y ^ m := (qpow_all ha n y m).2
theorem qok_inN {p : Po} (h : POk p) : QOk (qInN p) := qok_mkQ (pok_all fun x hx => by rw [List.mem_singleton.mp hx]; exact h)
theorem qv_inN (p : Po) (n : Int) (y : Rat) : qv (qInN p) n y = pv p n := by
  unfold qInN
  rw [qv_mkQ]
  show pv p n + y * 0 = _
  grind
theorem qok_line (a b c : Int) : QOk (qLine a b c) := qok_mkQ (pok_all fun x hx => by
  rcases List.mem_cons.mp hx with rfl | hx
  · exact pok_mkP _ (by decide)
  · rw [List.mem_singleton.mp hx]; exact pok_mkP _ (by decide))
theorem qv_line (a b c n : Int) (y : Rat) : qv (qLine a b c) n y = (a : Rat) * (n : Rat) + (b : Rat) * y + (c : Rat) := by
  unfold qLine
  rw [qv_mkQ]
  show pv (mkP [c, a] 1) n + y * (pv (mkP [b] 1) n + y * 0) = _
  rw [pv_mkP _ (by decide), pv_mkP _ (by decide)]
  have e1 : ev [c, a] n = c + n * a := by show c + n * (a + n * 0) = _; rw [Int.mul_zero, Int.add_zero]
  have e2 : ev [b] n = b := by show b + n * 0 = _; omega
  rw [e1, e2]
  push_cast
  grind
end
/-! ### moved -/
theorem dn_drop {l : List Po} (h : DN l) (m : Nat) : DN (l.drop m) := fun j => by
  rw [List.getD_eq_getElem?_getD, List.getElem?_drop, ← List.getD_eq_getElem?_getD]
  exact h _
theorem qv_drop {l : List Po} {i : Nat} (h : i < l.length) (n : Int) (y : Rat) : qv (l.drop i) n y = pv (l.getD i p0) n + y * qv (l.drop (i + 1)) n y := by
  rw [List.drop_eq_getElem_cons h, List.getD_eq_getElem?_getD, List.getElem?_eq_getElem h]
  rfl
theorem qv_split (n : Int) (y : Rat) : ∀ (l : List Po) (i : Nat), i ≤ l.length → qv l n y = qv (l.take i) n y + y ^ i * qv (l.drop i) n y
  | l, 0, _ => by
    rw [List.take_zero, List.drop_zero, Rat.pow_zero]
    show qv l n y = 0 + 1 * qv l n y
    grind
  | [], i + 1, h => by cases h
  | p :: l, i + 1, h => by
    show pv p n + y * qv l n y = (pv p n + y * qv (l.take i) n y) + y ^ (i + 1) * qv (l.drop i) n y
    rw [qv_split n y l i (by simpa using h), Rat.pow_succ]
    grind
theorem mvIn_spec (s : Fr) (hs : s.den ≠ 0) (m : Nat) (l : List Po) (hm : l.length = m) (hd : ∀ j, POk (l.getD j p0)) (n : Int) (y : Rat) : ∀ t, t ≤ m - 1 →
    (∀ j, POk ((mvIn s m t l).getD j p0)) ∧ (∀ j, j < m - 1 - t → (mvIn s m t l).getD j p0 = l.getD j p0) ∧
    qv (l.drop (m - 1 - t)) n y = pv ((mvIn s m t l).getD (m - 1 - t) p0) n + (y - fv s) * qv ((mvIn s m t l).drop (m - 1 - t + 1)) n y
  | 0, _ => by
    refine ⟨hd, fun _ _ => rfl, ?_⟩
    show qv (l.drop (m - 1 - 0)) n y = pv (l.getD (m - 1 - 0) p0) n + (y - fv s) * qv (l.drop (m - 1 - 0 + 1)) n y
    rw [Nat.sub_zero, show l.drop (m - 1 + 1) = [] from List.drop_eq_nil_of_le (by omega)]
    by_cases h : m - 1 < l.length
    · rw [qv_drop h, show l.drop (m - 1 + 1) = [] from List.drop_eq_nil_of_le (by omega)]
      show _ + y * 0 = _ + (y - fv s) * 0
      grind
    · rw [List.drop_eq_nil_of_le (by omega), getD_outQ (by omega), pv_p0]
      show (0 : Rat) = 0 + (y - fv s) * 0
      grind
  | t + 1, h => by
    obtain ⟨h1, h2, h3⟩ := mvIn_spec s hs m l hm hd n y t (by omega)
    have hl := mvIn_len s m l t
    have e : mvIn s m (t + 1) l = (mvIn s m t l).set (m - 2 - t) (pAdd ((mvIn s m t l).getD (m - 2 - t) p0) (pScaled ((mvIn s m t l).getD (m - 2 - t + 1) p0) s)) := rfl
    have i1 : m - 1 - (t + 1) = m - 2 - t := by omega
    have i2 : m - 2 - t + 1 = m - 1 - t := by omega
    have hsc := pok_scaled (f := s) (h1 (m - 2 - t + 1)).ne hs
    refine ⟨?_, fun j hj => ?_, ?_⟩
    · rw [e]; exact pok_set h1 (pok_add (h1 _).ne hsc.ne) _
    · rw [e, getD_setP, if_neg (by omega)]
      exact h2 j (by omega)
    · rw [i1, e, getD_setP, if_pos rfl, if_pos (by rw [hl]; omega), List.drop_set_of_lt (by omega), pv_add n (h1 _).ne hsc.ne, pv_scaled n (h1 _).ne hs, i2, qv_drop (by omega), i2, h3]
      have g : (mvIn s m t l).getD (m - 2 - t) p0 = l.getD (m - 2 - t) p0 := h2 _ (by omega)
      have hlt2 : m - 1 - t < (mvIn s m t l).length := by rw [hl]; omega
      have g2 := qv_drop hlt2 n y
      rw [g, g2]
      grind
theorem mvOut_spec (s : Fr) (hs : s.den ≠ 0) (m : Nat) (l : List Po) (hm : l.length = m) (hd : ∀ j, POk (l.getD j p0)) (n : Int) (y : Rat) : ∀ t, t ≤ m - 1 →
    (∀ j, POk ((mvOut s m t l).getD j p0)) ∧ qv l n (y + fv s) = qv ((mvOut s m t l).take t) n y + y ^ t * qv ((mvOut s m t l).drop t) n (y + fv s)
  | 0, _ => ⟨hd, by
    show qv l n (y + fv s) = qv (l.take 0) n y + y ^ 0 * qv (l.drop 0) n (y + fv s)
    rw [List.take_zero, List.drop_zero, Rat.pow_zero]
    show _ = 0 + _
    grind⟩
  | t + 1, h => by
    obtain ⟨g, ih⟩ := mvOut_spec s hs m l hm hd n y t (by omega)
    have hl := mvOut_len s m l t
    obtain ⟨k1, k2, k3⟩ := mvIn_spec s hs m (mvOut s m t l) (by rw [hl]; exact hm) g n (y + fv s) (m - 1 - t) (by omega)
    have e : mvOut s m (t + 1) l = mvIn s m (m - 1 - t) (mvOut s m t l) := rfl
    have i1 : m - 1 - (m - 1 - t) = t := by omega
    rw [i1] at k2 k3
    refine ⟨by rw [e]; exact k1, ?_⟩
    have et : qv ((mvIn s m (m - 1 - t) (mvOut s m t l)).take t) n y = qv ((mvOut s m t l).take t) n y := qv_same n y fun j => by
      rw [List.getD_eq_getElem?_getD, List.getD_eq_getElem?_getD, List.getElem?_take, List.getElem?_take]
      split
      · rename_i hj
        rw [← List.getD_eq_getElem?_getD, ← List.getD_eq_getElem?_getD, k2 j hj]
      · rfl
    rw [ih, e, qv_take_succ, et, k3, Rat.pow_succ]
    grind
theorem qv_mvOut (s : Fr) (hs : s.den ≠ 0) (l : List Po) (hd : ∀ j, POk (l.getD j p0)) (n : Int) (y : Rat) : qv (mvOut s l.length (l.length - 1) l) n y = qv l n (y + fv s) := by
  obtain ⟨g, h⟩ := mvOut_spec s hs l.length l rfl hd n y (l.length - 1) (Nat.le_refl _)
  have hl := mvOut_len s l.length l (l.length - 1)
  rw [h, qv_split n y (mvOut s l.length (l.length - 1) l) (l.length - 1) (by rw [hl]; omega)]
  congr 2
  by_cases h0 : l.length = 0
  · rw [List.drop_eq_nil_of_le (by omega)]; rfl
  · have hlt : l.length - 1 < (mvOut s l.length (l.length - 1) l).length := by rw [hl]; omega
    rw [qv_drop hlt, qv_drop hlt, show (mvOut s l.length (l.length - 1) l).drop (l.length - 1 + 1) = [] from List.drop_eq_nil_of_le (by omega)]
    show _ + y * 0 = _ + (y + fv s) * 0
    grind
theorem qv_mapShift (a n : Int) (y : Rat) : ∀ l : List Po, DN l → qv (l.map fun r => pShift r a) n y = qv l (n + a) y
  | [], _ => rfl
  | p :: l, h => by
    obtain ⟨h1, h2⟩ := dn_cons.mp h
    show pv (pShift p a) n + y * qv (l.map fun r => pShift r a) n y = pv p (n + a) + y * qv l (n + a) y
    rw [pv_shift n h1, qv_mapShift a n y l h2]
theorem pshift_p0 (a : Int) : pShift p0 a = p0 := rfl
section
variable {q : Q2}
theorem pok_mapShift (h : DN q) (a : Int) (j : Nat) : POk ((q.map fun r => pShift r a).getD j p0) := by
  rw [getD_mapN _ _ (pshift_p0 a)]
  exact pok_shift (h j) a
theorem qok_moved (h : DN q) (a b : Int) : QOk (qMoved q a b) := by
  refine qok_mkQ ?_
  have := (mvOut_spec (mkF b 1) (fok_mkF b (by decide)).ne q.length (q.map fun r => pShift r a) (List.length_map ..) (pok_mapShift h a) 0 0 (q.length - 1) (Nat.le_refl _)).1
  exact this
theorem qv_moved (h : DN q) (a b n : Int) (y : Rat) : qv (qMoved q a b) n y = qv q (n + a) (y + (b : Rat)) := by
  unfold qMoved
  have hl : (q.map fun r => pShift r a).length = q.length := List.length_map ..
  have := qv_mvOut (mkF b 1) (fok_mkF b (by decide)).ne (q.map fun r => pShift r a) (pok_mapShift h a) n y
  rw [hl] at this
  rw [qv_mkQ, this, qv_mapShift a n _ q h, fv_mkF b (by decide)]
  congr 1
  grind
end
end G
end
section
/-! Tables of integers as polynomials in two variables; canonical polynomials in two variables from their values. -/
namespace G
abbrev L2i := List (List Int)
def ev2 (B : L2i) (n y : Int) : Int := ev (B.map fun a => ev a n) y
def padd2 : L2i → L2i → L2i
  | [], m => m
  | a :: l, [] => a :: l
  | a :: l, b :: m => padd a b :: padd2 l m
def psm2 (c : Int) (B : L2i) : L2i := B.map (psm c)
def pml2 : L2i → L2i → L2i
  | [], _ => []
  | a :: l, m => padd2 (m.map (pml a)) ([] :: pml2 l m)
def lineB (a b c : Int) : L2i := [[c, a], [b]]
def powB (B : L2i) : Nat → L2i
  | 0 => [[1]]
  | n + 1 => pml2 (powB B n) B
theorem ev2_nil (n y : Int) : ev2 [] n y = 0 := rfl
theorem ev2_cons (a : List Int) (B : L2i) (n y : Int) : ev2 (a :: B) n y = ev a n + y * ev2 B n y := rfl
theorem ev2_padd (n y : Int) : ∀ A B, ev2 (padd2 A B) n y = ev2 A n y + ev2 B n y
  | [], B => by show ev2 B n y = 0 + _; omega
  | a :: A, [] => by show ev2 (a :: A) n y = _ + 0; omega
  | a :: A, b :: B => by
    show ev (padd a b) n + y * ev2 (padd2 A B) n y = (ev a n + y * ev2 A n y) + (ev b n + y * ev2 B n y)
    rw [ev_padd, ev2_padd n y A B]; grind
theorem ev2_psm (c n y : Int) : ∀ B, ev2 (psm2 c B) n y = c * ev2 B n y
  | [] => (Int.mul_zero c).symm
  | a :: B => by
    show ev (psm c a) n + y * ev2 (psm2 c B) n y = c * (ev a n + y * ev2 B n y)
    rw [ev_psm, ev2_psm c n y B]; grind
theorem ev2_mapml (a : List Int) (n y : Int) : ∀ B : L2i, ev2 (B.map (pml a)) n y = ev a n * ev2 B n y
  | [] => (Int.mul_zero _).symm
  | b :: B => by
    show ev (pml a b) n + y * ev2 (B.map (pml a)) n y = ev a n * (ev b n + y * ev2 B n y)
    rw [ev_pml, ev2_mapml a n y B]; grind
theorem ev2_pml (n y : Int) : ∀ A B, ev2 (pml2 A B) n y = ev2 A n y * ev2 B n y
  | [], B => (Int.zero_mul _).symm
  | a :: A, B => by
    show ev2 (padd2 (B.map (pml a)) ([] :: pml2 A B)) n y = (ev a n + y * ev2 A n y) * ev2 B n y
    rw [ev2_padd, ev2_mapml, ev2_cons, ev2_pml n y A B]
    show _ + (0 + _) = _
    grind
theorem ev2_line (a b c n y : Int) : ev2 (lineB a b c) n y = a * n + b * y + c := by
  show (c + n * (a + n * 0)) + y * ((b + n * 0) + y * 0) = _
  grind
theorem ev2_pow (B : L2i) (n y : Int) : ∀ m, ev2 (powB B m) n y = ev2 B n y ^ m
  | 0 => by
    show (1 + n * 0) + y * 0 = _
    rw [Int.pow_zero]; omega
  | m + 1 => by
    show ev2 (pml2 (powB B m) B) n y = _
    rw [ev2_pml, ev2_pow B n y m, Int.pow_succ]
theorem getD_padd2 : ∀ (A B : L2i) (e : Nat) (n : Int), ev ((padd2 A B).getD e []) n = ev (A.getD e []) n + ev (B.getD e []) n
  | [], B, e, n => by
    show _ = ev (([] : L2i).getD e []) n + _
    rw [show ([] : L2i).getD e [] = [] by simp]
    show ev (B.getD e []) n = 0 + _
    omega
  | a :: A, [], e, n => by
    show _ = _ + ev (([] : L2i).getD e []) n
    rw [show ([] : L2i).getD e [] = [] by simp]
    show ev ((a :: A).getD e []) n = _ + 0
    omega
  | a :: A, b :: B, 0, n => by
    show ev (padd a b) n = ev a n + ev b n
    exact ev_padd n a b
  | a :: A, b :: B, e + 1, n => by
    have := getD_padd2 A B e n
    simpa [padd2] using this
theorem getD_psm2 (c : Int) (B : L2i) (e : Nat) (n : Int) : ev ((psm2 c B).getD e []) n = c * ev (B.getD e []) n := by
  unfold psm2
  rw [List.getD_eq_getElem?_getD, List.getD_eq_getElem?_getD, List.getElem?_map]
  cases B[e]? with
  | none => exact (Int.mul_zero c).symm
  | some x => exact ev_psm c n x
theorem getD_mapE (B : L2i) (n : Int) (e : Nat) : (B.map fun a => ev a n).getD e 0 = ev (B.getD e []) n := by
  rw [List.getD_eq_getElem?_getD, List.getD_eq_getElem?_getD, List.getElem?_map]
  cases B[e]? with
  | none => rfl
  | some x => rfl
/-- the rows of a product with two rows -/
theorem row_two (u v : List Int) (C : L2i) (e : Nat) (n : Int) : ev ((pml2 [u, v] C).getD e []) n = ev u n * ev (C.getD e []) n + ev v n * (if e = 0 then 0 else ev (C.getD (e - 1) []) n) := by
  have hm : ∀ (w : List Int) (k : Nat), ev ((C.map (pml w)).getD k []) n = ev w n * ev (C.getD k []) n := fun w k => by
    rw [List.getD_eq_getElem?_getD, List.getD_eq_getElem?_getD, List.getElem?_map]
    cases C[k]? with
    | none => exact (Int.mul_zero _).symm
    | some x => exact ev_pml n w x
  show ev ((padd2 (C.map (pml u)) ([] :: padd2 (C.map (pml v)) ([] :: []))).getD e []) n = _
  rw [getD_padd2, hm]
  congr 1
  cases e with
  | zero =>
    show (0 : Int) = _
    rw [if_pos rfl]; omega
  | succ e =>
    rw [if_neg (by omega)]
    show ev ((padd2 (C.map (pml v)) ([] :: [])).getD e []) n = _
    rw [getD_padd2, hm]
    have : ev (([[]] : L2i).getD e []) n = 0 := by cases e <;> rfl
    rw [this]
    simp
/-! ### representation -/
def Rv (q : Q2) (B : L2i) (d : Int) : Prop := ∀ n y : Int, qv q n (y : Rat) * (d : Rat) = (ev2 B n y : Rat)
theorem qv_scale {n y : Int} {D : Int} : ∀ (l : List Po) (L : List Int), (∀ i, pv (l.getD i p0) n * (D : Rat) = (L.getD i 0 : Rat)) → qv l n (y : Rat) * (D : Rat) = (ev L y : Rat)
  | [], L, h => by
    have : ev L y = 0 := ev_zero fun i => by
      have := h i
      rw [show ([] : List Po).getD i p0 = p0 by simp, pv_p0] at this
      have : (L.getD i 0 : Rat) = 0 := by grind
      exact_mod_cast this
    rw [this]
    show (0 : Rat) * _ = _
    grind
  | p :: l, L, h => by
    have ih := qv_scale (n := n) (y := y) (D := D) l (L.drop 1) fun i => by
      have := h (i + 1)
      rw [show (p :: l).getD (i + 1) p0 = l.getD i p0 by simp] at this
      rw [this]
      congr 1
      rw [List.getD_eq_getElem?_getD, List.getD_eq_getElem?_getD, List.getElem?_drop, Nat.add_comm]
    have h0 := h 0
    rw [show (p :: l).getD 0 p0 = p by simp] at h0
    have e : ev L y = L.getD 0 0 + y * ev (L.drop 1) y := by
      cases L with
      | nil => show (0 : Int) = 0 + y * 0; omega
      | cons a L => rfl
    rw [e]
    show (pv p n + (y : Rat) * qv l n (y : Rat)) * (D : Rat) = _
    push_cast
    rw [← ih, ← h0]
    grind
theorem clear_den : ∀ l : List Po, DN l → ∃ (D : Int) (B : L2i), D ≠ 0 ∧ ∀ i n, pv (l.getD i p0) n * (D : Rat) = (ev (B.getD i []) n : Rat)
  | [], _ => ⟨1, [], by decide, fun i n => by
    rw [show ([] : List Po).getD i p0 = p0 by simp, show ([] : L2i).getD i [] = [] by simp, pv_p0]
    show _ = ((0 : Int) : Rat)
    grind⟩
  | p :: l, h => by
    obtain ⟨h1, h2⟩ := dn_cons.mp h
    obtain ⟨D, B, hD, hB⟩ := clear_den l h2
    refine ⟨p.den * D, psm D p.co :: psm2 p.den B, mul_ne h1 hD, fun i n => ?_⟩
    cases i with
    | zero =>
      show pv p n * _ = (ev (psm D p.co) n : Rat)
      rw [ev_psm]
      have := den_ne h1
      unfold pv
      push_cast
      grind
    | succ i =>
      rw [show (p :: l).getD (i + 1) p0 = l.getD i p0 by simp, show (psm D p.co :: psm2 p.den B).getD (i + 1) [] = (psm2 p.den B).getD i [] by simp, getD_psm2]
      have := hB i n
      push_cast
      rw [← this]
      grind
theorem qv_clear {l : List Po} {D : Int} {B : L2i} (h : ∀ i n, pv (l.getD i p0) n * (D : Rat) = (ev (B.getD i []) n : Rat)) (n y : Int) : qv l n (y : Rat) * (D : Rat) = (ev2 B n y : Rat) :=
  qv_scale l _ fun i => by rw [getD_mapE]; exact h i n
/-- equal values in y: equal coefficients -/
theorem coef2 {A B : L2i} {n c d : Int} (h : ∀ y, c * ev2 A n y = d * ev2 B n y) (i : Nat) : c * ev (A.getD i []) n = d * ev (B.getD i []) n := by
  have := coef_eq (l := psm c (A.map fun a => ev a n)) (m := psm d (B.map fun a => ev a n)) (Evt.all fun y => by rw [ev_psm, ev_psm]; exact h y) i
  rw [getD_psm, getD_psm, getD_mapE, getD_mapE] at this
  exact this
theorem rv_row {q : Q2} {B : L2i} {d : Int} (hq : DN q) (h : Rv q B d) (i : Nat) (n : Int) : pv (q.getD i p0) n * (d : Rat) = (ev (B.getD i []) n : Rat) := by
  obtain ⟨D, A, hD, hA⟩ := clear_den q hq
  have h2 := coef2 (A := A) (B := B) (n := n) (c := d) (d := D) (fun y => by
    have h3 := qv_clear hA n y
    have h4 := h n y
    have : (d : Rat) * (ev2 A n y : Rat) = (D : Rat) * (ev2 B n y : Rat) := by rw [← h3, ← h4]; grind
    exact_mod_cast this) i
  have h3 := hA i n
  have h4 : (d : Rat) * (ev (A.getD i []) n : Rat) = (D : Rat) * (ev (B.getD i []) n : Rat) := by exact_mod_cast h2
  rw [← h3] at h4
  have := den_ne hD
  have h5 : (D : Rat) * (pv (q.getD i p0) n * (d : Rat)) = (D : Rat) * (ev (B.getD i []) n : Rat) := by rw [← h4]; grind
  grind
/-- canonical polynomials in two variables of equal values are equal -/
theorem q_eq {a b : Q2} (ha : QOk a) (hb : QOk b) (h : Evt fun n => ∀ y : Int, qv a n (y : Rat) = qv b n (y : Rat)) : a = b := by
  obtain ⟨D, A, hD, hA⟩ := clear_den a ha.dn
  obtain ⟨E, B, hE, hB⟩ := clear_den b hb.dn
  have hi : ∀ i, a.getD i p0 = b.getD i p0 := fun i => pv_eq (ha.ok i) (hb.ok i) (h.mono fun n hn => by
    have h2 := coef2 (A := A) (B := B) (n := n) (c := E) (d := D) (fun y => by
      have h3 := qv_clear hA n y
      have h4 := qv_clear hB n y
      have h5 := hn y
      have : (E : Rat) * (ev2 A n y : Rat) = (D : Rat) * (ev2 B n y : Rat) := by rw [← h3, ← h4, h5]; grind
      exact_mod_cast this) i
    have h3 := hA i n
    have h4 := hB i n
    have h6 : (E : Rat) * (ev (A.getD i []) n : Rat) = (D : Rat) * (ev (B.getD i []) n : Rat) := by exact_mod_cast h2
    rw [← h3, ← h4] at h6
    have := den_ne hD
    have := den_ne hE
    grind)
  have len : ∀ {a b : Q2}, QOk a → (∀ i, a.getD i p0 = b.getD i p0) → a.length ≤ b.length := fun {a b} ha hi => by
    rcases ha.tr with e | e
    · rw [e]; exact Nat.zero_le _
    · apply Decidable.byContradiction
      intro z
      rw [hi, getD_outQ (by omega)] at e
      exact absurd e (by decide)
  have e := Nat.le_antisymm (len ha hi) (len hb fun i => (hi i).symm)
  apply List.ext_getElem e
  intro i h1 h2
  have := hi i
  rw [List.getD_eq_getElem?_getD, List.getD_eq_getElem?_getD, List.getElem?_eq_getElem h1, List.getElem?_eq_getElem h2] at this
  exact this
theorem q_len {q : Q2} {B : L2i} {d : Int} {L : Nat} (hq : QOk q) (h : Rv q B d) (hd : d ≠ 0) (hz : ∀ e, L ≤ e → ∀ n, ev (B.getD e []) n = 0) : q.length ≤ L := by
  rcases hq.tr with e | e
  · rw [e]; exact Nat.zero_le _
  · apply Decidable.byContradiction
    intro z
    obtain ⟨n, hn⟩ := (evt_pv_ne (hq.ok _) e).ex
    have h1 := rv_row hq.dn h (q.length - 1) n
    rw [hz _ (by omega)] at h1
    have := den_ne hd
    exact hn (by grind)
/-- bounds of a row -/
theorem row_facts {p : Po} {d : Int} {f : Int → Int} {a b N : Nat} (hp : POk p) (hd : d ≠ 0) (h : ∀ n, pv p n * (d : Rat) = (f n : Rat)) (r : Rep f a b N) : p.den ∣ d ∧ (p.co = [] ∨ p.co.length + a ≤ b + 1) ∧ nrm p.co ≤ N := by
  obtain ⟨L, h1, h2, h3⟩ := r
  have hc : ∀ i, p.co.getD i 0 * d = p.den * L.getD i 0 := fun i => by
    have := coef_eq (l := psm d p.co) (m := psm p.den L) (Evt.all fun n => by
      rw [ev_psm, ev_psm, ← h3]
      have h4 := h n
      have h5 := den_ne hp.ne
      unfold pv at h4
      have : (d : Rat) * (ev p.co n : Rat) = (p.den : Rat) * (f n : Rat) := by grind
      exact_mod_cast this) i
    rw [getD_psm, getD_psm] at this
    rw [Int.mul_comm]; exact this
  have hdv : p.den ∣ d := by
    have : p.den ∣ gcdI (content p.co) p.den * d := dvd_gcdI_mul (content_great fun i => ⟨_, hc i⟩) ⟨d, rfl⟩
    rwa [hp.cop, Int.one_mul] at this
  refine ⟨hdv, ?_⟩
  obtain ⟨t, ht⟩ := hdv
  have ht0 : t ≠ 0 := fun z => hd (by rw [ht, z, Int.mul_zero])
  have hL : ∀ i, p.co.getD i 0 * t = L.getD i 0 := fun i => by
    refine Int.eq_of_mul_eq_mul_left hp.ne ?_
    rw [← hc i, ht]
    grind
  refine ⟨?_, ?_⟩
  · have hl : p.co.length ≤ L.length := tr_len2 hp.tr fun i hi => by
      have := hL i
      rw [hi] at this
      exact (Int.mul_eq_zero.mp this).resolve_right ht0
    rcases h1 with rfl | h1
    · left
      exact List.eq_nil_of_length_eq_zero (by simpa using hl)
    · right; omega
  · refine Nat.le_trans (nrm_le_of fun i => ?_) h2
    rw [← hL i, Int.natAbs_mul]
    exact Nat.le_mul_of_pos_right _ (Int.natAbs_pos.mpr ht0)
/-- a concrete list -/
def repOk (l : List Int) (a b N : Nat) : Bool := (decide ((trim l).length = 0) || decide ((trim l).length + a ≤ b + 1)) && decide (nrm l ≤ N)
theorem rep_of {l : List Int} {a b N : Nat} (h : repOk l a b N = true) : Rep (fun n => ev l n) a b N := by
  unfold repOk at h
  rw [Bool.and_eq_true, Bool.or_eq_true] at h
  obtain ⟨h1, h2⟩ := h
  refine ⟨trim l, ?_, Nat.le_trans (nrm_trim l) (of_decide_eq_true h2), fun n => (ev_trim l n).symm⟩
  rcases h1 with h1 | h1
  · left; exact List.eq_nil_of_length_eq_zero (of_decide_eq_true h1)
  · right; exact of_decide_eq_true h1
end G
end
section
set_option maxRecDepth 20000
/-! The pieces of the equations: their rows, degrees, numbers. -/
namespace G
structure SOk (s : Bsum) : Prop where
  b : BOk s
  fb : FOk s.b
  w : QOk s.w
  wn : s.w.length ≠ 0
theorem rv_congr {q : Q2} {A B : L2i} {d : Int} (h : Rv q A d) (e : ∀ n y, ev2 A n y = ev2 B n y) : Rv q B d := fun n y => by rw [h n y, e n y]
theorem rv_d {q : Q2} {A : L2i} {d e : Int} (h : Rv q A d) (k : d = e) : Rv q A e := by rw [← k]; exact h
theorem rv_mul {a b : Q2} {A B : L2i} {d e : Int} (ha : DN a) (hb : DN b) (h : Rv a A d) (k : Rv b B e) : Rv (qMul a b) (pml2 A B) (d * e) := fun n y => by
  rw [qv_mul ha hb, ev2_pml]
  have h1 := h n y
  have h2 := k n y
  push_cast
  rw [← h1, ← h2]
  grind
theorem rv_q1 : Rv q1 [[1]] 1 := fun n y => by
  rw [qv_q1]
  show _ = (((1 + n * 0) + y * 0 : Int) : Rat)
  have : ((1 + n * 0) + y * 0 : Int) = 1 := by omega
  rw [this]
  grind
theorem rv_pow {a : Q2} {A : L2i} (ha : DN a) (h : Rv a A 1) : ∀ m, Rv (qPow a m) (powB A m) 1
  | 0 => rv_q1
  | m + 1 => rv_mul (qok_pow ha m).dn ha (rv_pow ha h m) h
theorem rv_line (a b c : Int) : Rv (qLine a b c) (lineB a b c) 1 := fun n y => by
  rw [qv_line, ev2_line]
  push_cast
  grind
def prodBN (Bs : Nat → L2i) (n : Nat) : L2i := loop (fun i r => pml2 r (Bs i)) n [[1]]
theorem rv_prodN {l : List Q2} {Bs : Nat → L2i} (h : ∀ i, i < l.length → QOk (l.getD i []) ∧ Rv (l.getD i []) (Bs i) 1) : ∀ n, n ≤ l.length → QOk (qProdN l n) ∧ Rv (qProdN l n) (prodBN Bs n) 1
  | 0, _ => ⟨qok_q1, rv_q1⟩
  | n + 1, hn => by
    obtain ⟨a, b⟩ := rv_prodN h n (by omega)
    obtain ⟨c, d⟩ := h n (by omega)
    exact ⟨qok_mul a.dn c.dn, rv_mul a.dn c.dn b d⟩
theorem lns_get (a b : Int) (lo n i : Nat) (h : i < n) : (lns a b lo n).getD i [] = qLine a b ((lo + i : Nat) : Int) := by
  unfold lns
  exact getD_rangeM _ _ _ _ h
def chB (j i : Nat) : L2i := if i < j then lineB 1 0 ((1 + i : Nat) : Int) else lineB 1 (-1) ((j + 1 + (i - j) : Nat) : Int)
def riB (j i : Nat) : L2i := if i < j then lineB 1 1 ((1 + i : Nat) : Int) else lineB 1 0 ((j + 1 + (i - j) : Nat) : Int)
theorem getD_app {α : Type} (l k : List α) (i : Nat) (d : α) : (l ++ k).getD i d = if i < l.length then l.getD i d else k.getD (i - l.length) d := by
  rw [List.getD_eq_getElem?_getD, List.getD_eq_getElem?_getD, List.getD_eq_getElem?_getD]
  split
  · rename_i h; rw [List.getElem?_append_left h]
  · rename_i h; rw [List.getElem?_append_right (by omega)]
theorem rv_ch {J j : Nat} (h : j ≤ J) : QOk (qProd (colCh J j)) ∧ Rv (qProd (colCh J j)) (prodBN (chB j) J) 1 := by
  have hl := colCh_len h
  have := rv_prodN (l := colCh J j) (Bs := chB j) (fun i hi => by
    unfold colCh
    rw [getD_app, lns_len]
    unfold chB
    split
    · rename_i hij
      rw [lns_get _ _ _ _ _ hij]
      exact ⟨qok_line _ _ _, rv_line _ _ _⟩
    · rw [lns_get _ _ _ _ _ (by omega)]
      exact ⟨qok_line _ _ _, rv_line _ _ _⟩) J (by omega)
  unfold qProd
  rw [hl]
  exact this
theorem rv_ri {J j : Nat} (h : j ≤ J) : QOk (qProd (colRi J j)) ∧ Rv (qProd (colRi J j)) (prodBN (riB j) J) 1 := by
  have hl := colRi_len h
  have := rv_prodN (l := colRi J j) (Bs := riB j) (fun i hi => by
    unfold colRi
    rw [getD_app, lns_len]
    unfold riB
    split
    · rename_i hij
      rw [lns_get _ _ _ _ _ hij]
      exact ⟨qok_line _ _ _, rv_line _ _ _⟩
    · rw [lns_get _ _ _ _ _ (by omega)]
      exact ⟨qok_line _ _ _, rv_line _ _ _⟩) J (by omega)
  unfold qProd
  rw [hl]
  exact this
/-! ### the weight -/
def wc (s : Bsum) (i t : Nat) : Int := (s.w.getD i p0).co.getD t 0
def wRowB (s : Bsum) (j i : Nat) : List Int := [wc s i 0 + (j : Int) * wc s i 1, wc s i 1]
theorem ev_len2 {l : List Int} (h : l.length ≤ 2) (x : Int) : ev l x = l.getD 0 0 + x * l.getD 1 0 := by
  match l, h with
  | [], _ => show (0 : Int) = 0 + x * 0; omega
  | [a], _ => show a + x * 0 = a + x * 0; rfl
  | [a, b], _ => show a + x * (b + x * 0) = a + x * b; rw [Int.mul_zero, Int.add_zero]
theorem rv_w {s : Bsum} (h : SOk s) (j : Nat) : Rv (qMoved s.w (j : Int) 0) [wRowB s j 0, wRowB s j 1] 1 := fun n y => by
  rw [qv_moved h.w.dn, qv_sum (n + (j : Int)) _ s.w (m := 2) h.b.w.1]
  have hw : ∀ i, pv (s.w.getD i p0) (n + (j : Int)) = (ev (wRowB s j i) n : Rat) := fun i => by
    have hp := wp_getD h.b.w.2 i
    unfold pv
    rw [hp.1, ev_len2 hp.2.2]
    have : ev (wRowB s j i) n = wc s i 0 + (n + (j : Int)) * wc s i 1 := by
      show (wc s i 0 + (j : Int) * wc s i 1) + n * (wc s i 1 + n * 0) = _
      grind
    rw [this]
    unfold wc
    grind
  show ((0 + pv (s.w.getD 0 p0) (n + (j : Int)) * ((y : Rat) + ((0 : Int) : Rat)) ^ 0) + pv (s.w.getD 1 p0) (n + (j : Int)) * ((y : Rat) + ((0 : Int) : Rat)) ^ 1) * ((1 : Int) : Rat) = ((ev (wRowB s j 0) n + y * (ev (wRowB s j 1) n + y * 0) : Int) : Rat)
  rw [hw, hw]
  push_cast
  grind
def colC (ch ri J j : Nat) : L2i := pml2 (powB (prodBN (chB j) J) ch) (powB (prodBN (riB j) J) ri)
theorem rv_col {s : Bsum} (h : SOk s) {J j : Nat} (hj : j ≤ J) : QOk (column s J j) ∧ Rv (column s J j) (pml2 [wRowB s j 0, wRowB s j 1] (colC s.ch s.ri J j)) 1 := by
  obtain ⟨c1, c2⟩ := rv_ch hj
  obtain ⟨r1, r2⟩ := rv_ri hj
  have m := qok_moved h.w.dn (j : Int) 0
  have k1 := qok_mul m.dn (qok_pow c1.dn s.ch).dn
  refine ⟨qok_mul k1.dn (qok_pow r1.dn s.ri).dn, ?_⟩
  have := rv_mul k1.dn (qok_pow r1.dn s.ri).dn (rv_mul m.dn (qok_pow c1.dn s.ch).dn (rv_w h j) (rv_pow c1.dn c2 s.ch)) (rv_pow r1.dn r2 s.ri)
  refine rv_congr (rv_d (q := column s J j) this (by omega)) fun n y => ?_
  unfold colC
  rw [ev2_pml, ev2_pml, ev2_pml, ev2_pml]
  grind
def fwC (ch ri ce J : Nat) : L2i := pml2 (pml2 (powB (lineB 1 (-1) (J : Int)) ch) (powB (lineB 1 1 1) ri)) (powB (lineB 0 4 2) ce)
theorem rv_fw {s : Bsum} (h : SOk s) (J : Nat) : QOk (forward s J) ∧ Rv (forward s J) (psm2 s.b.num (fwC s.ch s.ri s.ce J)) s.b.den := by
  have k0 : QOk (qInN (pConst s.b)) := qok_inN (pok_mkP _ h.fb.ne)
  have r0 : Rv (qInN (pConst s.b)) [[s.b.num]] s.b.den := fun n y => by
    rw [qv_inN, pv_const n h.fb.ne]
    have e : ev2 [[s.b.num]] n y = s.b.num := by show (s.b.num + n * 0) + y * 0 = _; omega
    rw [e]
    have := den_ne h.fb.ne
    unfold fv
    grind
  have l1 := qok_line 1 (-1) (J : Int)
  have l2 := qok_line 1 1 1
  have l3 := qok_line 0 4 2
  have p1 := (qok_pow l1.dn s.ch).dn
  have p2 := (qok_pow l2.dn s.ri).dn
  have p3 := (qok_pow l3.dn s.ce).dn
  have k1 := qok_mul k0.dn p1
  have k2 := qok_mul k1.dn p2
  refine ⟨qok_mul k2.dn p3, ?_⟩
  have := rv_mul k2.dn p3 (rv_mul k1.dn p2 (rv_mul k0.dn p1 r0 (rv_pow l1.dn (rv_line _ _ _) s.ch)) (rv_pow l2.dn (rv_line _ _ _) s.ri)) (rv_pow l3.dn (rv_line _ _ _) s.ce)
  refine rv_congr (rv_d (q := forward s J) this (by omega)) fun n y => ?_
  unfold fwC
  rw [ev2_psm, ev2_pml, ev2_pml, ev2_pml, ev2_pml, ev2_pml]
  have e : ev2 [[s.b.num]] n y = s.b.num := by show (s.b.num + n * 0) + y * 0 = _; omega
  rw [e]
  grind
theorem rv_bw (s : Bsum) : QOk (backward s) ∧ Rv (backward s) (powB (lineB 0 1 0) (facs s)) 1 := by
  have l1 := qok_line 0 1 0
  exact ⟨qok_pow l1.dn _, rv_pow l1.dn (rv_line _ _ _) _⟩
def mZ (F i : Nat) : L2i := pml2 (powB (lineB 0 1 0) F) (powB (lineB 0 1 0) i)
def mY (ch ri ce J i : Nat) : L2i := pml2 (fwC ch ri ce J) (powB (lineB 0 1 1) i)
theorem rv_m {s : Bsum} (h : SOk s) (J i : Nat) : QOk (mpiece s J i) ∧ Rv (mpiece s J i) (padd2 (psm2 s.b.den (mZ (facs s) i)) (psm2 (-s.b.num) (mY s.ch s.ri s.ce J i))) s.b.den := by
  obtain ⟨f1, f2⟩ := rv_fw h J
  obtain ⟨b1, b2⟩ := rv_bw s
  have l1 := qok_line 0 1 0
  have l2 := qok_line 0 1 1
  have p1 := (qok_pow l1.dn i).dn
  have p2 := (qok_pow l2.dn i).dn
  have m1 := qok_mul b1.dn p1
  have m2 := qok_mul f1.dn p2
  refine ⟨qok_sub m1.dn m2.dn, fun n y => ?_⟩
  have v1 := rv_mul b1.dn p1 b2 (rv_pow l1.dn (rv_line 0 1 0) i) n y
  have v2 := rv_mul f1.dn p2 f2 (rv_pow l2.dn (rv_line 0 1 1) i) n y
  unfold mpiece
  rw [qv_sub m1.dn m2.dn, ev2_padd, ev2_psm, ev2_psm]
  rw [ev2_pml, ev2_psm] at v2
  unfold mY mZ
  rw [ev2_pml (A := fwC s.ch s.ri s.ce J)]
  generalize qv (qMul (backward s) (qPow (qLine 0 1 0) i)) n (y : Rat) = u at *
  generalize qv (qMul (forward s J) (qPow (qLine 0 1 1) i)) n (y : Rat) = v at *
  generalize ev2 (pml2 (powB (lineB 0 1 0) (facs s)) (powB (lineB 0 1 0) i)) n y = a at *
  generalize ev2 (fwC s.ch s.ri s.ce J) n y = b at *
  generalize ev2 (powB (lineB 0 1 1) i) n y = c at *
  push_cast at *
  grind
/-! ### the shapes -/
def shapes : List (Nat × Nat × Nat) := [(1, 0, 0), (2, 0, 0), (1, 1, 0), (1, 0, 1)]
theorem shape_mem {s : Bsum} (h : BOk s) : (s.ch, s.ri, s.ce) ∈ shapes := by
  have h1 := h.c1
  have h2 := h.fs
  have : s.ch = 1 ∧ s.ri = 0 ∧ s.ce = 0 ∨ s.ch = 2 ∧ s.ri = 0 ∧ s.ce = 0 ∨ s.ch = 1 ∧ s.ri = 1 ∧ s.ce = 0 ∨ s.ch = 1 ∧ s.ri = 0 ∧ s.ce = 1 := by omega
  rcases this with ⟨a, b, c⟩ | ⟨a, b, c⟩ | ⟨a, b, c⟩ | ⟨a, b, c⟩ <;> rw [a, b, c] <;> decide
def colChk (ch ri ce J j e : Nat) : Bool :=
  repOk ((colC ch ri J j).getD e []) (e - 1) 4 (nrm ((colC ch ri J j).getD e [])) && (decide (e = 0) || repOk ((colC ch ri J j).getD (e - 1) []) (e - 1) 4 (nrm ((colC ch ri J j).getD (e - 1) []))) &&
  decide (28 * nrm ((colC ch ri J j).getD e []) + 28 * nrm ((colC ch ri J j).getD (e - 1) []) ≤ 8192) && decide ((colC ch ri J j).length ≤ 5) && decide ((colC ch ri J j).length ≤ ch + ri + ce + 3)
theorem colAll : (shapes.all fun sh => (List.range 3).all fun J => (List.range (J + 1)).all fun j => (List.range 6).all fun e => colChk sh.1 sh.2.1 sh.2.2 J j e) = true := by decide +kernel
def mChk (ch ri ce J i e : Nat) : Bool :=
  repOk ((mZ (ch + ri + ce) i).getD e []) (e - 1) (max 2 (i + 1)) (nrm ((mZ (ch + ri + ce) i).getD e [])) && repOk ((mY ch ri ce J i).getD e []) (e - 1) (max 2 (i + 1)) (nrm ((mY ch ri ce J i).getD e [])) &&
  decide (7 * nrm ((mZ (ch + ri + ce) i).getD e []) + 7 * nrm ((mY ch ri ce J i).getD e []) ≤ 8192) && decide ((mZ (ch + ri + ce) i).length ≤ ch + ri + ce + i + 1) && decide ((mY ch ri ce J i).length ≤ ch + ri + ce + i + 1) &&
  decide (trim ((mZ (ch + ri + ce) i).getD (ch + ri + ce + i) []) = [1]) && decide (trim ((mY ch ri ce J i).getD (ch + ri + ce + i) []) = [(-1) ^ ch * 4 ^ ce])
theorem mAll : (shapes.all fun sh => (List.range 3).all fun J => (List.range 5).all fun i => (List.range 6).all fun e => mChk sh.1 sh.2.1 sh.2.2 J i e) = true := by decide +kernel
theorem colChk_of {s : Bsum} (h : BOk s) {J j e : Nat} (hJ : J ≤ 2) (hj : j ≤ J) (he : e < 6) : colChk s.ch s.ri s.ce J j e = true := by
  have h1 := List.all_eq_true.mp colAll _ (shape_mem h)
  have h2 := List.all_eq_true.mp h1 J (List.mem_range.mpr (by omega))
  have h3 := List.all_eq_true.mp h2 j (List.mem_range.mpr (by omega))
  exact List.all_eq_true.mp h3 e (List.mem_range.mpr he)
theorem mChk_of {s : Bsum} (h : BOk s) {J i e : Nat} (hJ : J ≤ 2) (hi : i < 5) (he : e < 6) : mChk s.ch s.ri s.ce J i e = true := by
  have h1 := List.all_eq_true.mp mAll _ (shape_mem h)
  have h2 := List.all_eq_true.mp h1 J (List.mem_range.mpr (by omega))
  have h3 := List.all_eq_true.mp h2 i (List.mem_range.mpr (by omega))
  exact List.all_eq_true.mp h3 e (List.mem_range.mpr he)
theorem abs7 {x : Int} (h : lg x ≤ 2) : x.natAbs ≤ 7 := by
  have := lt_of_lg h
  omega
theorem wc7 {s : Bsum} (h : SOk s) (i t : Nat) : (wc s i t).natAbs ≤ 7 := abs7 (lg_getD (wp_getD h.b.w.2 i).2.1 t)
theorem wRow_rep {s : Bsum} (h : SOk s) {j : Nat} (hj : j ≤ 2) (i : Nat) : Rep (fun n => ev (wRowB s j i) n) 0 1 28 := by
  refine ⟨wRowB s j i, .inr (by show 2 + 0 ≤ 2; omega), ?_, fun _ => rfl⟩
  show (wc s i 0 + (j : Int) * wc s i 1).natAbs + ((wc s i 1).natAbs + 0) ≤ 28
  have h1 := wc7 h i 0
  have h2 := wc7 h i 1
  have h3 := Int.natAbs_add_le (wc s i 0) ((j : Int) * wc s i 1)
  rw [Int.natAbs_mul, Int.natAbs_natCast] at h3
  have h4 : j * (wc s i 1).natAbs ≤ 2 * 7 := Nat.mul_le_mul hj h2
  omega
/-- the rows of the columns -/
theorem col_row {s : Bsum} (h : SOk s) {J j e : Nat} (hJ : J ≤ 2) (hj : j ≤ J) (he : e < 6) : ∃ f : Int → Int, Rep f (e - 1) 5 8192 ∧ ∀ n, pv (qRow (column s J j) e) n * ((1 : Int) : Rat) = (f n : Rat) := by
  obtain ⟨k1, k2⟩ := rv_col h hj
  have hc := colChk_of h.b hJ hj he
  unfold colChk at hc
  rw [Bool.and_eq_true, Bool.and_eq_true, Bool.and_eq_true, Bool.and_eq_true, Bool.or_eq_true] at hc
  obtain ⟨⟨⟨⟨c1, c2⟩, c3⟩, _⟩, _⟩ := hc
  have c3 := of_decide_eq_true c3
  refine ⟨_, ?_, fun n => by rw [qRow_eq]; exact rv_row k1.dn k2 e n⟩
  have r1 := rep_mul (wRow_rep h (show j ≤ 2 by omega) 0) (rep_of c1)
  have r2 : Rep (fun n => ev (wRowB s j 1) n * (if e = 0 then 0 else ev ((colC s.ch s.ri J j).getD (e - 1) []) n)) (0 + (e - 1)) (1 + 4) (28 * nrm ((colC s.ch s.ri J j).getD (e - 1) [])) := by
    by_cases h0 : e = 0
    · subst h0
      exact rep_congr (rep_zero) fun x => by rw [if_pos rfl]; exact Int.mul_zero _
    · have := c2.resolve_left (by rw [decide_eq_false h0]; exact Bool.false_ne_true)
      refine rep_congr (rep_mul (wRow_rep h (show j ≤ 2 by omega) 1) (rep_of this)) fun x => by rw [if_neg h0]
  have r3 := rep_add r1 r2
  have r4 := r3.mono c3
  rw [Nat.zero_add] at r4
  exact rep_congr r4 fun n => row_two _ _ _ e n
/-- the rows of the others -/
theorem m_row {s : Bsum} (h : SOk s) {J i e : Nat} (hJ : J ≤ 2) (hi : i < 5) (he : e < 6) : ∃ f : Int → Int, Rep f (e - 1) (max 2 (i + 1)) 8192 ∧ ∀ n, pv (qRow (mpiece s J i) e) n * (s.b.den : Rat) = (f n : Rat) := by
  obtain ⟨k1, k2⟩ := rv_m h J i
  have hc := mChk_of h.b hJ hi he
  unfold mChk at hc
  rw [Bool.and_eq_true, Bool.and_eq_true, Bool.and_eq_true, Bool.and_eq_true, Bool.and_eq_true, Bool.and_eq_true] at hc
  obtain ⟨⟨⟨⟨⟨⟨c1, c2⟩, c3⟩, _⟩, _⟩, _⟩, _⟩ := hc
  have c3 := of_decide_eq_true c3
  refine ⟨_, ?_, fun n => by rw [qRow_eq]; exact rv_row k1.dn k2 e n⟩
  have r1 := rep_smul s.b.den (rep_of c1)
  have r2 := rep_smul (-s.b.num) (rep_of c2)
  have n1 := abs7 h.b.b.2.2
  have n2 := abs7 h.b.b.2.1
  rw [← Int.natAbs_neg] at n2
  refine rep_congr ((rep_add r1 r2).mono ?_) fun n => by rw [getD_padd2, getD_psm2, getD_psm2]; rfl
  have h1 := Nat.mul_le_mul_right (nrm ((mZ (s.ch + s.ri + s.ce) i).getD e [])) n1
  have h2 := Nat.mul_le_mul_right (nrm ((mY s.ch s.ri s.ce J i).getD e [])) n2
  omega
end G
end
section
set_option maxRecDepth 20000
/-! Numbers of rows and columns; the rows of the equations. -/
namespace G
theorem getD_outB {l : L2i} {e : Nat} (h : l.length ≤ e) : l.getD e [] = [] := by
  rw [List.getD_eq_getElem?_getD, List.getElem?_eq_none h]; rfl
section
variable {s : Bsum} {J j : Nat}
theorem col_len' (h : SOk s) (hj : j ≤ J) : (column s J j).length ≤ (colC s.ch s.ri J j).length + 1 := by
  obtain ⟨k1, k2⟩ := rv_col h hj
  refine q_len k1 k2 (by decide) fun e he n => ?_
  rw [row_two, getD_outB (by omega), if_neg (by omega), getD_outB (by omega)]
  show _ * 0 + _ * 0 = 0
  omega
theorem col_len (h : SOk s) (hJ : J ≤ 2) (hj : j ≤ J) : (column s J j).length ≤ 6 ∧ (column s J j).length ≤ facs s + 4 := by
  have hl := col_len' h hj
  have hc := colChk_of h.b hJ hj (show 0 < 6 by omega)
  unfold colChk at hc
  rw [Bool.and_eq_true, Bool.and_eq_true] at hc
  obtain ⟨⟨_, c1⟩, c2⟩ := hc
  have c1 := of_decide_eq_true c1
  have c2 := of_decide_eq_true c2
  unfold facs
  omega
theorem col0All : (shapes.all fun sh => decide ((colC sh.1 sh.2.1 0 0).length ≤ 1)) = true := by decide +kernel
theorem col_len0 (h : SOk s) : (column s 0 0).length ≤ 2 := by
  have hl := col_len' h (Nat.le_refl 0)
  have := of_decide_eq_true (List.all_eq_true.mp col0All _ (shape_mem h.b))
  have : (colC s.ch s.ri 0 0).length ≤ 1 := this
  omega
theorem lead_num (h : SOk s) (hl : leadB s = f1) : s.b.num * ((-1) ^ s.ch * 4 ^ s.ce) = s.b.den := by
  have hv : fv (leadB s) = 1 := by rw [hl, fv_f1]
  have hd := den_ne h.fb.ne
  have hs := shape_mem h.b
  have key : ∀ (f g : Fr) (a b : Int), f = ⟨a, 1⟩ → g = ⟨b, 1⟩ → fv (fMul (fMul s.b f) g) = fv s.b * a * b := fun f g a b e1 e2 => by
    subst e1 e2
    have h1 : (⟨a, 1⟩ : Fr).den ≠ 0 := by show (1 : Int) ≠ 0; decide
    have h2 : (⟨b, 1⟩ : Fr).den ≠ 0 := by show (1 : Int) ≠ 0; decide
    rw [fv_mul (fok_mul h.fb.ne h1).ne h2, fv_mul h.fb.ne h1]
    have e1 : fv ⟨a, 1⟩ = (a : Rat) := by show (a : Rat) / ((1 : Int) : Rat) = _; grind
    have e2 : fv ⟨b, 1⟩ = (b : Rat) := by show (b : Rat) / ((1 : Int) : Rat) = _; grind
    rw [e1, e2]
  have fin : ∀ a b : Int, fv s.b * (a : Rat) * (b : Rat) = 1 → s.b.num * (a * b) = s.b.den := fun a b e => by
    unfold fv at e
    have : (s.b.num : Rat) * ((a : Rat) * (b : Rat)) = (s.b.den : Rat) := by grind
    exact_mod_cast this
  unfold leadB at hv
  generalize s.ch = ch at *
  generalize s.ri = ri at *
  generalize s.ce = ce at *
  have hs2 : (ch, ri, ce) = (1, 0, 0) ∨ (ch, ri, ce) = (2, 0, 0) ∨ (ch, ri, ce) = (1, 1, 0) ∨ (ch, ri, ce) = (1, 0, 1) := by
    simpa [shapes] using hs
  rcases hs2 with e | e | e | e <;> cases e
  · rw [key _ _ (-1) 1 (by decide) (by decide)] at hv; exact fin _ _ hv
  · rw [key _ _ 1 1 (by decide) (by decide)] at hv; exact fin _ _ hv
  · rw [key _ _ (-1) 1 (by decide) (by decide)] at hv; exact fin _ _ hv
  · rw [key _ _ (-1) 4 (by decide) (by decide)] at hv; exact fin _ _ hv
theorem m_len (h : SOk s) (hJ : J ≤ 2) {i : Nat} (hi : i < 5) : (mpiece s J i).length ≤ facs s + i + 1 ∧ (leadB s = f1 → (mpiece s J i).length ≤ facs s + i) := by
  obtain ⟨k1, k2⟩ := rv_m h J i
  have hc := mChk_of h.b hJ hi (show 0 < 6 by omega)
  unfold mChk at hc
  rw [Bool.and_eq_true, Bool.and_eq_true, Bool.and_eq_true, Bool.and_eq_true] at hc
  obtain ⟨⟨⟨⟨_, c1⟩, c2⟩, c3⟩, c4⟩ := hc
  have c1 : (mZ (facs s) i).length ≤ facs s + i + 1 := of_decide_eq_true c1
  have c2 : (mY s.ch s.ri s.ce J i).length ≤ facs s + i + 1 := of_decide_eq_true c2
  have c3 : trim ((mZ (facs s) i).getD (facs s + i) []) = [1] := of_decide_eq_true c3
  have c4 : trim ((mY s.ch s.ri s.ce J i).getD (facs s + i) []) = [(-1) ^ s.ch * 4 ^ s.ce] := of_decide_eq_true c4
  have out : ∀ e, facs s + i + 1 ≤ e → ∀ n, ev ((padd2 (psm2 s.b.den (mZ (facs s) i)) (psm2 (-s.b.num) (mY s.ch s.ri s.ce J i))).getD e []) n = 0 := fun e he n => by
    rw [getD_padd2, getD_psm2, getD_psm2, getD_outB (by omega), getD_outB (by omega)]
    show _ * 0 + _ * 0 = 0
    omega
  refine ⟨q_len k1 k2 h.fb.ne out, fun hl => q_len k1 k2 h.fb.ne fun e he n => ?_⟩
  by_cases h1 : facs s + i + 1 ≤ e
  · exact out e h1 n
  · have h2 : e = facs s + i := by omega
    subst h2
    rw [getD_padd2, getD_psm2, getD_psm2, ← ev_trim ((mZ (facs s) i).getD (facs s + i) []), ← ev_trim ((mY s.ch s.ri s.ce J i).getD (facs s + i) []), c3, c4]
    have e1 : ∀ a : Int, ev [a] n = a := fun a => by show a + n * 0 = a; omega
    rw [e1, e1]
    have := lead_num h hl
    grind
/-! ### numbers -/
theorem fac12 (h : BOk s) : 1 ≤ facs s ∧ facs s ≤ 2 := by
  have h1 := h.c1
  have h2 := h.fs
  unfold facs
  omega
theorem dC_spec (h : SOk s) (hJ : J ≤ 2) : maxOf (cdegs s J) ≤ 5 ∧ maxOf (cdegs s J) ≤ (facs s : Int) + 3 ∧ (∀ j, j ≤ J → qDk (column s J j) ≤ maxOf (cdegs s J)) ∧ -1 ≤ maxOf (cdegs s J) := by
  have hl : 0 < (cdegs s J).length := by unfold cdegs; rw [List.length_map, List.length_range]; omega
  obtain ⟨h1, h2⟩ := maxOf_spec hl
  obtain ⟨j, hj, e⟩ := List.mem_map.mp h1
  have hj' := List.mem_range.mp hj
  obtain ⟨a, b⟩ := col_len h hJ (show j ≤ J by omega)
  rw [← e]
  refine ⟨by unfold qDk; omega, by unfold qDk; omega, fun k hk => ?_, by unfold qDk; omega⟩
  have := h2 (qDk (column s J k)) (List.mem_map.mpr ⟨k, List.mem_range.mpr (by omega), rfl⟩)
  rw [← e] at this
  exact this
theorem cdeg_cases (h : SOk s) (hJ : J ≤ 2) : (leadB s ≠ f1 ∧ cdeg s J = max (maxOf (cdegs s J) - (facs s : Int)) (-1)) ∨ (leadB s = f1 ∧ maxOf (cdegs s J) - (facs s : Int) + 1 ≤ cdeg s J ∧ -1 ≤ cdeg s J ∧ cdeg s J ≤ max (maxOf (cdegs s J) - (facs s : Int) + 1) 1) := by
  by_cases hl : leadB s = f1
  · right
    refine ⟨hl, ?_⟩
    have e : cdeg s J = max (if s.ch = s.ri ∧ s.ce % 2 = 0 then max (cdegB s J + 1) ((s.ch : Int) * ((J : Int) - 1) - (s.ce : Int).fdiv 2) else cdegB s J + 1) (-1) := by
      unfold cdeg cdegC
      rw [if_pos hl]
    have eB : cdegB s J = maxOf (cdegs s J) - (facs s : Int) := rfl
    rw [e, eB]
    split
    · rename_i hc
      have h1 := h.b.c1
      have h2 := h.b.fs
      have hch : s.ch = 1 := by omega
      have hce : s.ce = 0 := by omega
      rw [hch, hce]
      have e0 : ((0 : Nat) : Int).fdiv 2 = 0 := by decide
      rw [e0]
      omega
    · omega
  · left
    refine ⟨hl, ?_⟩
    unfold cdeg cdegC
    rw [if_neg hl]
    rfl
theorem eqW_eq (s : Bsum) (J : Nat) : eqW s J = J + 1 + nM s J := by
  unfold eqW pieces
  rw [List.length_append, List.length_map, List.length_map, List.length_range, List.length_range]
theorem nM_int (s : Bsum) (J : Nat) : (nM s J : Int) = cdeg s J + 1 := by
  have : -1 ≤ cdeg s J := by unfold cdeg; omega
  unfold nM
  omega
theorem counts (h : SOk s) (hJ : J ≤ 2) : nM s J ≤ 5 ∧ eqSize s J ≤ 6 ∧ cdeg s J ≤ 4 ∧ ((facs s ≤ J ∨ (leadB s = f1 ∧ facs s ≤ J + 1)) → eqSize s J < eqW s J) := by
  obtain ⟨f1', f2'⟩ := fac12 h.b
  obtain ⟨d1, d2, d3, d4⟩ := dC_spec h hJ
  have hn := nM_int s J
  have hc := cdeg_cases h hJ
  have hn5 : nM s J ≤ 5 := by omega
  have hlen : 0 < ((pieces s J).map qDk).length := by
    rw [List.length_map]
    have := eqW_eq s J
    unfold eqW at this
    omega
  obtain ⟨m1, m2⟩ := maxOf_spec hlen
  have hD : maxOf ((pieces s J).map qDk) ≤ maxOf (cdegs s J) ∨ (1 ≤ nM s J ∧ maxOf ((pieces s J).map qDk) ≤ (facs s : Int) + cdeg s J ∧ (leadB s = f1 → maxOf ((pieces s J).map qDk) ≤ (facs s : Int) + cdeg s J - 1)) := by
    obtain ⟨p, hp, e⟩ := List.mem_map.mp m1
    rw [← e]
    unfold pieces at hp
    rcases List.mem_append.mp hp with hp | hp
    · obtain ⟨j, hj, rfl⟩ := List.mem_map.mp hp
      have := List.mem_range.mp hj
      exact .inl (d3 j (by omega))
    · right
      obtain ⟨i, hi, rfl⟩ := List.mem_map.mp hp
      have hi' := List.mem_range.mp hi
      obtain ⟨a, b⟩ := m_len h hJ (show i < 5 by omega)
      refine ⟨by omega, by unfold qDk; omega, fun hl => ?_⟩
      have := b hl
      unfold qDk
      omega
  have hsz : eqSize s J = (1 + maxOf ((pieces s J).map qDk)).toNat := rfl
  have hw := eqW_eq s J
  refine ⟨hn5, ?_, by omega, fun hyp => ?_⟩
  · rw [hsz]
    rcases hc with ⟨l1, l2⟩ | ⟨l1, l2, l3, l4⟩
    · rcases hD with g | ⟨g1, g2, g3⟩ <;> omega
    · rcases hD with g | ⟨g1, g2, g3⟩
      · omega
      · have := g3 l1
        omega
  · rw [hsz, hw]
    rcases hc with ⟨l1, l2⟩ | ⟨l1, l2, l3, l4⟩
    · have hyp := hyp.resolve_right fun z => l1 z.1
      rcases hD with g | ⟨g1, g2, g3⟩ <;> omega
    · have hyp : facs s ≤ J + 1 := by rcases hyp with z | z <;> omega
      rcases hD with g | ⟨g1, g2, g3⟩
      · omega
      · have := g3 l1
        omega
theorem eqW_one (h : SOk s) (hF : facs s = 2) (hl : leadB s ≠ f1) : eqW s 0 = 1 := by
  have hc := (cdeg_cases h (show 0 ≤ 2 by omega)).resolve_right fun z => hl z.1
  have hlen : 0 < (cdegs s 0).length := by unfold cdegs; rw [List.length_map, List.length_range]; omega
  obtain ⟨h1, _⟩ := maxOf_spec hlen
  obtain ⟨j, hj, e⟩ := List.mem_map.mp h1
  have hj' := List.mem_range.mp hj
  have hj0 : j = 0 := by omega
  subst hj0
  have h2 := col_len0 h
  have h3 : maxOf (cdegs s 0) ≤ 1 := by rw [← e]; unfold qDk; omega
  have hn := nM_int s 0
  rw [eqW_eq]
  omega
/-! ### the rows -/
def bet (J j : Nat) : Nat := if j ≤ J then 5 else min 5 (max 2 (j - J))
theorem piece_get (s : Bsum) (J j : Nat) : (pieces s J).getD j [] = if j < J + 1 then column s J j else if j - (J + 1) < nM s J then mpiece s J (j - (J + 1)) else [] := by
  unfold pieces
  rw [getD_app, List.length_map, List.length_range]
  split
  · rename_i h
    exact getD_rangeM _ _ _ _ h
  · split
    · rename_i h
      exact getD_rangeM _ _ _ _ h
    · rw [List.getD_eq_getElem?_getD, List.getElem?_eq_none (by rw [List.length_map, List.length_range]; omega)]; rfl
theorem raw (h : SOk s) (hJ : J ≤ 2) {e : Nat} (he : e < 6) (j : Nat) : POk (qRow ((pieces s J).getD j []) e) ∧ (qRow ((pieces s J).getD j []) e).den ∣ s.b.den ∧ ((qRow ((pieces s J).getD j []) e).co = [] ∨ (qRow ((pieces s J).getD j []) e).co.length + (e - 1) ≤ bet J j + 1) ∧ nrm (qRow ((pieces s J).getD j []) e).co ≤ 8192 := by
  rw [piece_get]
  split
  · rename_i hj
    have hbe : bet J j = 5 := by unfold bet; rw [if_pos (by omega)]
    rw [hbe]
    have hok : POk (qRow (column s J j) e) := by rw [qRow_eq]; exact (rv_col h (by omega)).1.ok e
    obtain ⟨f, r, hf⟩ := col_row h hJ (show j ≤ J by omega) he
    obtain ⟨a, b, c⟩ := row_facts hok (by decide) hf r
    exact ⟨hok, Int.dvd_trans a (Int.one_dvd _), b, c⟩
  · rename_i hj
    have hbe : bet J j = min 5 (max 2 (j - J)) := by unfold bet; rw [if_neg (by omega)]
    rw [hbe]
    split
    · rename_i hi
      have hn := (counts h hJ).1
      have hok : POk (qRow (mpiece s J (j - (J + 1))) e) := by rw [qRow_eq]; exact (rv_m h J _).1.ok e
      obtain ⟨f, r, hf⟩ := m_row h hJ (show j - (J + 1) < 5 by omega) he
      obtain ⟨a, b, c⟩ := row_facts hok h.fb.ne hf r
      refine ⟨hok, a, ?_, c⟩
      rcases b with b | b
      · exact .inl b
      · right; omega
    · have e0 : qRow [] e = p0 := by rw [qRow_eq]; simp
      rw [e0]
      exact ⟨pok_p0, ⟨s.b.den, by show s.b.den = 1 * _; omega⟩, .inl rfl, Nat.zero_le _⟩
theorem row_eq {e : Nat} (he : e < eqSize s J) : (eqRows s J).getD e [] = (pieces s J).map fun p => qRow p e := by
  unfold eqRows
  exact getD_rangeM _ _ _ _ he
theorem row_get {e : Nat} (he : e < eqSize s J) (j : Nat) : ((eqRows s J).getD e []).getD j p0 = qRow ((pieces s J).getD j []) e := by
  rw [row_eq he, List.getD_eq_getElem?_getD, List.getD_eq_getElem?_getD, List.getElem?_map]
  cases (pieces s J)[j]? with
  | none =>
    show p0 = qRow [] e
    rw [qRow_eq]; simp
  | some x => rfl
theorem row_len {e : Nat} (he : e < eqSize s J) : ((eqRows s J).getD e []).length = eqW s J := by
  rw [row_eq he, List.length_map]
  rfl
theorem bet5 (J j : Nat) : bet J j ≤ 5 := by unfold bet; split <;> omega
theorem rowin (h : SOk s) (hJ : J ≤ 2) {e : Nat} (he : e < eqSize s J) : RowIn ((eqRows s J).getD e []) 5 8192 43 s.b.den := by
  obtain ⟨c1, c2, c3, _⟩ := counts h hJ
  have hr := fun j => raw h hJ (show e < 6 by omega) j
  have hw := eqW_eq s J
  have hd7 := abs7 h.b.b.2.2
  refine ⟨by decide, by decide, by decide, by decide, h.fb.den, Nat.lt_of_le_of_lt hd7 (by decide), by rw [row_len he]; omega, fun j => ?_, fun j => ?_, fun j => ?_, fun j => ?_⟩
  · rw [row_get he]; exact (hr j).1
  · rw [row_get he]; exact (hr j).2.1
  · rw [row_get he]
    have hb := bet5 J j
    rcases (hr j).2.2.1 with z | z
    · rw [z]; exact Nat.zero_le _
    · omega
  · rw [row_get he]; exact (hr j).2.2.2
theorem eqRows_len (s : Bsum) (J : Nat) : (eqRows s J).length = eqSize s J := by
  unfold eqRows
  rw [List.length_map, List.length_range]
theorem getD_mapG {α β : Type} (f : α → β) (l : List α) (i : Nat) (d : α) (d' : β) (h : i < l.length) : (l.map f).getD i d' = f (l.getD i d) := by
  rw [List.getD_eq_getElem?_getD, List.getD_eq_getElem?_getD, List.getElem?_map, List.getElem?_eq_getElem h]
  rfl
theorem prow_get {e : Nat} (he : e < eqSize s J) : ((eqRows s J).map pRow).getD e [] = pRow ((eqRows s J).getD e []) :=
  getD_mapG pRow _ _ _ _ (by rw [eqRows_len]; exact he)
theorem kbR_ge : 8192 * 5 ^ 5 * (2 * 5 + 3) ^ 5 ≤ 9505100800000 := by decide
theorem prow_kb {row : List Po} {K N c : Nat} {M : Int} {kb kb7 : Nat} (H : RowIn row K N c M) (h1 : N * K ^ K * (2 * K + 3) ^ K ≤ kb) (h2 : M.natAbs ≤ 7) (h3 : 7 * kb ≤ kb7) : ∃ (D : List Int) (q : Int), D ≠ [] ∧ Tr D ∧ D.length ≤ 15 ∧ q ≠ 0 ∧ ∀ j, j < row.length → WhP ((pRow row).getD j p0) ∧ nrm ((pRow row).getD j p0).co ≤ kb7 ∧ ((pRow row).getD j p0).co.length ≤ (row.getD j p0).co.length ∧ ∀ x, (M : Rat) * pv (row.getD j p0) x = (q : Rat) * (ev D x : Rat) * (ev ((pRow row).getD j p0).co x : Rat) := by
  obtain ⟨D, q, a, b, b2, c, hp⟩ := prow_spec H
  refine ⟨D, q, a, b, b2, c, fun j hj => ?_⟩
  obtain ⟨p1, p2, p3, p4⟩ := hp j hj
  exact ⟨p1, Nat.le_trans (Nat.le_trans p2 (Nat.mul_le_mul h2 h1)) h3, p3, p4⟩
theorem kbN1 : 1 ≤ 66535705600000 := by decide
theorem kbN47 : 66535705600000 ≤ 2 ^ 47 := by decide
theorem prow_raw (h : SOk s) (hJ : J ≤ 2) {e : Nat} (he : e < eqSize s J) : ∃ (D : List Int) (q : Int), D ≠ [] ∧ Tr D ∧ D.length ≤ 15 ∧ q ≠ 0 ∧ ∀ j, j < ((eqRows s J).getD e []).length → WhP ((pRow ((eqRows s J).getD e [])).getD j p0) ∧ nrm ((pRow ((eqRows s J).getD e [])).getD j p0).co ≤ 66535705600000 ∧ ((pRow ((eqRows s J).getD e [])).getD j p0).co.length ≤ (((eqRows s J).getD e []).getD j p0).co.length ∧ ∀ x, (s.b.den : Rat) * pv (((eqRows s J).getD e []).getD j p0) x = (q : Rat) * (ev D x : Rat) * (ev ((pRow ((eqRows s J).getD e [])).getD j p0).co x : Rat) :=
  prow_kb (rowin h hJ he) kbR_ge (abs7 h.b.b.2.2) (by decide)
theorem t0ok (h : SOk s) (hJ : J ≤ 2) : T0Ok ((eqRows s J).map pRow) (eqSize s J) (eqW s J) (fun e => e - 1) (bet J) 66535705600000 := by
  obtain ⟨c1, c2, c3, _⟩ := counts h hJ
  have hw := eqW_eq s J
  have hd7 := abs7 h.b.b.2.2
  refine ⟨by rw [List.length_map, eqRows_len], fun i hi => by rw [prow_get hi, pRow_len, row_len hi], fun i j hi hj => ?_, fun i j hi hj => ?_, bet5 J, c2, by omega, kbN1, kbN47⟩
  · obtain ⟨D, q, _, _, _, _, hp⟩ := prow_raw h hJ hi
    unfold pGet
    rw [prow_get hi]
    exact (hp j (by rw [row_len hi]; exact hj)).1
  · obtain ⟨D, q, _, _, _, _, hp⟩ := prow_raw h hJ hi
    obtain ⟨_, p2, p3, _⟩ := hp j (by rw [row_len hi]; exact hj)
    have hr := raw h hJ (show i < 6 by omega) j
    unfold pGet
    rw [prow_get hi]
    rw [row_get hi] at p3
    refine ⟨?_, p2⟩
    rcases hr.2.2.1 with z | z
    · left
      rw [z] at p3
      exact List.eq_nil_of_length_eq_zero (by simpa using p3)
    · right
      show _ + (i - 1) ≤ _
      omega
/-- the raw entries from those of the table -/
theorem raw_t1 (h : SOk s) (hJ : J ≤ 2) {e : Nat} (he : e < eqSize s J) : ∃ D : List Int, D ≠ [] ∧ Tr D ∧ D.length ≤ 15 ∧ ∀ x, ∃ u : Rat, (ev D x ≠ 0 → u ≠ 0) ∧ ∀ j, j < eqW s J → pv (pGet (eqRows s J) e j) x = u * (ev (pGet ((eqRows s J).map pRow) e j).co x : Rat) := by
  obtain ⟨D, q, dz, td, dl, q0, hp⟩ := prow_raw h hJ he
  have hm := den_ne h.fb.ne
  refine ⟨D, dz, td, dl, fun x => ⟨(q : Rat) * (ev D x : Rat) / (s.b.den : Rat), fun hx => ?_, fun j hj => ?_⟩⟩
  · have h1 := den_ne hx
    have h2 := den_ne q0
    show (q : Rat) * (ev D x : Rat) / (s.b.den : Rat) ≠ 0
    grind
  · have := (hp j (by rw [row_len he]; exact hj)).2.2.2 x
    unfold pGet
    rw [prow_get he]
    grind
end
end G
end
section
set_option maxRecDepth 20000
/-! The kernel vector of the equations. -/
namespace G
/-- distinct rows -/
theorem skip_inj {j a b : Nat} (h : skip j a = skip j b) : a = b := by unfold skip at h; split at h <;> split at h <;> omega
theorem skip_ne (j a : Nat) : skip j a ≠ j := by unfold skip; split <;> omega
theorem inj_sum : ∀ (B c : Nat) (ρ : Nat → Nat), (∀ k, k < c → ρ k < B) → (∀ a b, a < c → b < c → ρ a = ρ b → a = b) → sumS (fun k => k - 1) c ≤ sumS (fun k => ρ k - 1) c ∧ c ≤ B
  | 0, c, ρ, h, _ => by
    cases c with
    | zero => exact ⟨Nat.le_refl _, Nat.le_refl _⟩
    | succ c => exact absurd (h 0 (by omega)) (by omega)
  | B + 1, c, ρ, h, hi => by
    by_cases hj : ∃ j, j < c ∧ ρ j = B
    · obtain ⟨j, hj, e⟩ := hj
      cases c with
      | zero => omega
      | succ c =>
        obtain ⟨h1, h2⟩ := inj_sum B c (fun k => ρ (skip j k)) (fun k hk => by
          have a1 := h (skip j k) (skip_lt hj hk)
          have a2 : ρ (skip j k) ≠ B := fun z => skip_ne j k (hi _ _ (skip_lt hj hk) hj (z.trans e.symm))
          show ρ (skip j k) < B
          omega) fun a b ha hb z => skip_inj (hi _ _ (skip_lt hj ha) (skip_lt hj hb) z)
        have hs := sumS_skip (fun k => ρ k - 1) c j (by omega)
        have e1 : sumS (fun k => k - 1) (c + 1) = sumS (fun k => k - 1) c + (c - 1) := rfl
        have e2 : ρ j - 1 = B - 1 := by rw [e]
        rw [e2] at hs
        refine ⟨?_, by omega⟩
        rw [e1, ← hs]
        omega
    · obtain ⟨h1, h2⟩ := inj_sum B c ρ (fun k hk => by
        have a1 := h k hk
        have a2 : ρ k ≠ B := fun z => hj ⟨k, hk, z⟩
        omega) hi
      exact ⟨h1, by omega⟩
theorem betAll : ((List.range 3).all fun J => (List.range 7).all fun c => decide (sumS (bet J) c ≤ 14 + sumS (fun k => k - 1) c) && (List.range c).all fun i => decide (sumS (fun k => if k = i then bet J c else bet J k) c ≤ 14 + sumS (fun k => k - 1) c)) = true := by decide +kernel
theorem bet_of {J c : Nat} (hJ : J ≤ 2) (hc : c ≤ 6) : sumS (bet J) c ≤ 14 + sumS (fun k => k - 1) c ∧ ∀ i, i < c → sumS (fun k => if k = i then bet J c else bet J k) c ≤ 14 + sumS (fun k => k - 1) c := by
  have h1 := List.all_eq_true.mp betAll J (List.mem_range.mpr (by omega))
  have h2 := List.all_eq_true.mp h1 c (List.mem_range.mpr (by omega))
  rw [Bool.and_eq_true] at h2
  exact ⟨of_decide_eq_true h2.1, fun i hi => of_decide_eq_true (List.all_eq_true.mp h2.2 i (List.mem_range.mpr hi))⟩
theorem nrm6 {N c : Nat} (h0 : 1 ≤ N) (hN : N ≤ 66535705600000) (hc : c ≤ 6) : factN c * N ^ c ≤ 720 * 66535705600000 ^ 6 := by
  have h1 : factN c ≤ 720 := by
    have : ∀ k, k ≤ 6 → factN k ≤ 720 := by decide
    exact this c hc
  exact Nat.mul_le_mul h1 (Nat.le_trans (Nat.pow_le_pow_right h0 hc) (Nat.pow_le_pow_left hN 6))
section
variable {s : Bsum} {J c : Nat} {ρ : Nat → Nat} {t : PM} {last : Po}
def kvN : Nat := 720 * 66535705600000 ^ 6
theorem kv_entry (h : SOk s) (hJ : J ≤ 2) (I : PInv ((eqRows s J).map pRow) (eqSize s J) (eqW s J) c t last ρ) (hcm : c ≤ eqSize s J) (hcw : c < eqW s J) (j : Nat) : ((kvP0 t c last (eqW s J)).getD j p0).co.length ≤ 15 ∧ nrm ((kvP0 t c last (eqW s J)).getD j p0).co ≤ kvN := by
  have T := t0ok h hJ
  have hm6 := T.m6
  obtain ⟨b1, b2⟩ := bet_of hJ (show c ≤ 6 by omega)
  obtain ⟨a1, _⟩ := inj_sum (eqSize s J) c ρ (fun k hk => I.lt k (by omega)) fun a b ha hb e => I.inj a b (by omega) (by omega) e
  have hn := nrm6 (c := c) T.n0 (Nat.le_refl _) (by omega)
  rw [kvP0_get t last hcw]
  split
  · rename_i hj
    have hw := I.wh j c (by omega) hcw
    have r := rep_congr (rep_dex1 T I.lt (c := c) hj hcm (by omega) hcw) (fun x => I.ent j c (by omega) hcw x)
    have r2 := rep_congr (rep_smul (-1) r) (fun x => by rw [ev_neg' hw x]; omega : ∀ x, ev (pNeg (pGet t j c)).co x = -1 * ev (pGet t j c).co x)
    obtain ⟨f1, f2⟩ := rep_po (wh_neg hw) r2
    refine ⟨?_, ?_⟩
    · rcases f1 with z | z
      · rw [z]; exact Nat.zero_le _
      · have := b2 j hj
        omega
    · refine Nat.le_trans f2 ?_
      rw [show (-1 : Int).natAbs = 1 from rfl, Nat.one_mul]
      exact hn
  · split
    · have r := rep_congr (rep_det (fun k => ρ k - 1) 66535705600000 c (bet J) (fun x => Bx ((eqRows s J).map pRow) ρ x) fun a b ha hb => rep_entry T I.lt (by omega) (by omega)) (fun x => I.lst x)
      obtain ⟨f1, f2⟩ := rep_po I.lw r
      refine ⟨?_, Nat.le_trans f2 hn⟩
      rcases f1 with z | z
      · rw [z]; exact Nat.zero_le _
      · omega
    · exact ⟨Nat.zero_le _, Nat.zero_le _⟩
theorem kvN_b : kvN * 14 ^ 14 * (2 * 14 + 3) ^ 14 < 2 ^ (408 + 1) := by decide +kernel
theorem kv_rowin (h : SOk s) (hJ : J ≤ 2) (I : PInv ((eqRows s J).map pRow) (eqSize s J) (eqW s J) c t last ρ) (hcm : c ≤ eqSize s J) (hcw : c < eqW s J) : RowIn (kvP0 t c last (eqW s J)) 14 kvN 408 1 := by
  have hw := fun j => kv_wh I hcm hcw j
  have he := fun j => kv_entry h hJ I hcm hcw j
  have T := t0ok h hJ
  have := T.w9
  exact ⟨by decide, by decide, kvN_b, by decide, by decide, by decide, by rw [kvP0_len]; omega, fun j => (hw j).ok, fun j => by rw [(hw j).one]; exact Int.dvd_refl 1, fun j => (he j).1, fun j => (he j).2⟩
/-- what the vector is -/
structure VecOut (s : Bsum) (J : Nat) (v : List Po) : Prop where
  len : v.length = eqW s J
  wh : ∀ j, j < eqW s J → WhP (v.getD j p0)
  bd : ∀ j, j < eqW s J → WP 500 15 (v.getD j p0)
  nz : ∃ c, c < eqW s J ∧ pZ (v.getD c p0) = false
  ker : Evt fun x => ∀ e, e < eqSize s J → sumQ (eqW s J) (fun j => pv (pGet (eqRows s J) e j) x * (ev (v.getD j p0).co x : Rat)) = 0
theorem sumQ_int (f : Nat → Int) : ∀ n, sumQ n (fun j => ((f j : Int) : Rat)) = ((sumN n f : Int) : Rat)
  | 0 => by show (0 : Rat) = ((0 : Int) : Rat); grind
  | n + 1 => by
    show sumQ n _ + (f n : Rat) = ((sumN n f + f n : Int) : Rat)
    rw [sumQ_int f n]
    push_cast
    rfl
theorem prow_wide {row : List Po} {K N c : Nat} {M : Int} {kb : Nat} (H : RowIn row K N c M) (h1 : M.natAbs * (N * K ^ K * (2 * K + 3) ^ K) < 2 ^ (kb + 1)) : ∃ (D : List Int) (q : Int), D ≠ [] ∧ Tr D ∧ D.length ≤ 15 ∧ q ≠ 0 ∧ ∀ j, j < row.length → WhP ((pRow row).getD j p0) ∧ WP kb (K + 1) ((pRow row).getD j p0) ∧ ∀ x, (M : Rat) * pv (row.getD j p0) x = (q : Rat) * (ev D x : Rat) * (ev ((pRow row).getD j p0).co x : Rat) := by
  obtain ⟨D, q, a, b, b2, c, hp⟩ := prow_spec H
  refine ⟨D, q, a, b, b2, c, fun j hj => ?_⟩
  obtain ⟨p1, p2, p3, p4⟩ := hp j hj
  exact ⟨p1, wp_of p1 (Nat.lt_of_le_of_lt p2 h1) (Nat.le_trans p3 (H.ln j)), p4⟩
theorem kvN_b2 : (1 : Int).natAbs * (kvN * 14 ^ 14 * (2 * 14 + 3) ^ 14) < 2 ^ (499 + 1) := by decide +kernel
theorem vec_out (h : SOk s) (hJ : J ≤ 2) (I : PInv ((eqRows s J).map pRow) (eqSize s J) (eqW s J) c t last ρ) (hs : Sur (eqSize s J) ρ) (hcm : c ≤ eqSize s J) (hcw : c < eqW s J) (e : ppP t c c = none) : VecOut s J (kvP t c last (eqW s J)) := by
  have H := kv_rowin h hJ I hcm hcw
  obtain ⟨D, q, dz, td, _, q0, hp⟩ := prow_wide H kvN_b2
  rw [kvP0_len] at hp
  have hev : ∀ j, j < eqW s J → ∀ x, (ev ((kvP0 t c last (eqW s J)).getD j p0).co x : Rat) = (q : Rat) * (ev D x : Rat) * (ev ((kvP t c last (eqW s J)).getD j p0).co x : Rat) := fun j hj x => by
    have h1 := (hp j hj).2.2 x
    rw [(kv_wh I hcm hcw j).pv] at h1
    have h2 : (ev ((kvP0 t c last (eqW s J)).getD j p0).co x : Rat) = ((1 : Int) : Rat) * (ev ((kvP0 t c last (eqW s J)).getD j p0).co x : Rat) := by grind
    rw [h2]
    exact h1
  refine ⟨kvP_len _ _ _ _, fun j hj => (hp j hj).1, fun j hj => ((hp j hj).2.1).mono (by decide) (by decide), ⟨c, hcw, ?_⟩, ?_⟩
  · cases hz : pZ ((kvP t c last (eqW s J)).getD c p0) with
    | false => rfl
    | true =>
      exfalso
      refine ne_zero I.lw.ok I.lz fun x => ?_
      have h1 := hev c hcw x
      rw [ev_pz hz, kvP0_get t last hcw c, if_neg (by omega), if_pos rfl] at h1
      have : (ev last.co x : Rat) = 0 := by rw [h1]; grind
      exact_mod_cast this
  · have k := kv_kernel I hs hcm hcw e
    have hD : Evt fun x => ev D x ≠ 0 := evt_ne ⟨_, td.resolve_left dz⟩
    refine (k.and hD).mono fun x ⟨hk, hDx⟩ e he => ?_
    obtain ⟨_, _, _, _, hD2⟩ := raw_t1 h hJ he
    obtain ⟨u, _, hu⟩ := hD2 x
    have h1 := hk e he
    have h2 : ((sumN (eqW s J) (fun j => ev (pGet ((eqRows s J).map pRow) e j).co x * ev ((kvP0 t c last (eqW s J)).getD j p0).co x) : Int) : Rat) = ((0 : Int) : Rat) := by rw [h1]
    rw [← sumQ_int] at h2
    have h3 : sumQ (eqW s J) (fun j => ((ev (pGet ((eqRows s J).map pRow) e j).co x * ev ((kvP0 t c last (eqW s J)).getD j p0).co x : Int) : Rat)) = ((q : Rat) * (ev D x : Rat)) * sumQ (eqW s J) (fun j => (ev (pGet ((eqRows s J).map pRow) e j).co x : Rat) * (ev ((kvP t c last (eqW s J)).getD j p0).co x : Rat)) := by
      rw [← sumQ_mul]
      refine sumQ_congr fun j hj => ?_
      push_cast
      rw [hev j hj x]
      grind
    have h4 : sumQ (eqW s J) (fun j => pv (pGet (eqRows s J) e j) x * (ev ((kvP t c last (eqW s J)).getD j p0).co x : Rat)) = u * sumQ (eqW s J) (fun j => (ev (pGet ((eqRows s J).map pRow) e j).co x : Rat) * (ev ((kvP t c last (eqW s J)).getD j p0).co x : Rat)) := by
      rw [← sumQ_mul]
      refine sumQ_congr fun j hj => ?_
      rw [hu j hj]
      grind
    rw [h4]
    rw [h3] at h2
    have q0' := den_ne q0
    have hDx' := den_ne hDx
    have h5 : sumQ (eqW s J) (fun j => (ev (pGet ((eqRows s J).map pRow) e j).co x : Rat) * (ev ((kvP t c last (eqW s J)).getD j p0).co x : Rat)) = 0 := by
      generalize sumQ (eqW s J) (fun j => (ev (pGet ((eqRows s J).map pRow) e j).co x : Rat) * (ev ((kvP t c last (eqW s J)).getD j p0).co x : Rat)) = S at *
      grind
    rw [h5]
    grind
end
end G
end
section
/-! The point with a left inverse. -/
namespace G
def rM (m : List (List Po)) (n : Nat) : Mx := m.map fun r => r.map fun p => pAt p (n : Int)
/-- a list that is not zero is not zero at a small point -/
theorem small_ne {l : List Int} (h : ∃ i, l.getD i 0 ≠ 0) : ∃ n : Nat, n < l.length ∧ ev l n ≠ 0 := by
  apply Classical.byContradiction
  intro z
  have := roots_le l.length l (Nat.le_refl _) h ((List.range l.length).map fun i : Nat => (i : Int)) (nodup_ints _) fun x hx => by
    obtain ⟨n, hn, rfl⟩ := List.mem_map.mp hx
    apply Classical.byContradiction
    intro y
    exact z ⟨n, List.mem_range.mp hn, y⟩
  rw [List.length_map, List.length_range] at this
  omega
theorem pml_ne {l m : List Int} (hl : ∃ i, l.getD i 0 ≠ 0) (hm : ∃ i, m.getD i 0 ≠ 0) : ∃ i, (pml l m).getD i 0 ≠ 0 := by
  apply Classical.byContradiction
  intro z
  have hz : ∀ i, (pml l m).getD i 0 = 0 := fun i => Decidable.byContradiction fun y => z ⟨i, y⟩
  obtain ⟨n, h1, h2⟩ := ((evt_ne hl).and (evt_ne hm)).ex
  have := ev_zero (x := (n : Int)) hz
  rw [ev_pml] at this
  rcases Int.mul_eq_zero.mp this with y | y
  · exact h1 y
  · exact h2 y
theorem ne_nil {l : List Int} (h : ∃ i, l.getD i 0 ≠ 0) : l ≠ [] := fun z => by
  obtain ⟨i, hi⟩ := h
  rw [z] at hi
  exact hi (by simp)
section
variable {s : Bsum} {J : Nat} {ρ : Nat → Nat} {t : PM} {last : Po}
theorem good_rows (h : SOk s) (hJ : J ≤ 2) : ∀ m, m ≤ eqSize s J → ∃ l : List Int, (∃ i, l.getD i 0 ≠ 0) ∧ l.length ≤ 15 * m + 1 ∧ ∀ x, ev l x ≠ 0 → ∀ e, e < m → ∃ u : Rat, u ≠ 0 ∧ ∀ j, j < eqW s J → pv (pGet (eqRows s J) e j) x = u * (ev (pGet ((eqRows s J).map pRow) e j).co x : Rat)
  | 0, _ => ⟨[1], ⟨0, by decide⟩, by decide, fun x _ e he => absurd he (by omega)⟩
  | m + 1, hm => by
    obtain ⟨l, l1, l2, l3⟩ := good_rows h hJ m (by omega)
    obtain ⟨D, dz, td, dl, hD⟩ := raw_t1 h hJ (show m < eqSize s J by omega)
    have hDn : ∃ i, D.getD i 0 ≠ 0 := ⟨_, td.resolve_left dz⟩
    refine ⟨pml l D, pml_ne l1 hDn, ?_, fun x hx e he => ?_⟩
    · have := len_pml l D (ne_nil l1) dz
      omega
    · rw [ev_pml] at hx
      by_cases hem : e = m
      · subst hem
        obtain ⟨u, hu, hj⟩ := hD x
        exact ⟨u, hu fun z => hx (by rw [z, Int.mul_zero]), hj⟩
      · exact l3 x (fun z => hx (by rw [z, Int.zero_mul])) e (by omega)
theorem rat_den (r : Rat) : r * ((r.den : Int) : Rat) = (r.num : Rat) := by
  have h := Rat.divInt_eq_div r.num (r.den : Int)
  rw [Rat.num_divInt_den] at h
  have hd := den_ne (show ((r.den : Int)) ≠ 0 by have := r.den_nz; omega)
  generalize ((r.den : Int) : Rat) = d at *
  generalize (r.num : Rat) = m at *
  rw [h]
  grind
theorem clear_vec (v : Nat → Rat) : ∀ w, ∃ (D : Int) (u : Nat → Int), D ≠ 0 ∧ ∀ j, j < w → v j * (D : Rat) = (u j : Rat)
  | 0 => ⟨1, fun _ => 0, by decide, fun j h => absurd h (by omega)⟩
  | w + 1 => by
    obtain ⟨D, u, hD, hu⟩ := clear_vec v w
    have hd : ((v w).den : Int) ≠ 0 := by have := (v w).den_nz; omega
    refine ⟨D * ((v w).den : Int), fun j => if j = w then (v w).num * D else u j * ((v w).den : Int), mul_ne hD hd, fun j hj => ?_⟩
    by_cases e : j = w
    · subst e
      show v j * _ = ((if j = j then (v j).num * D else u j * ((v j).den : Int) : Int) : Rat)
      rw [if_pos rfl]
      have h3 : (v j) * (((v j).den : Int) : Rat) = ((v j).num : Rat) := rat_den (v j)
      push_cast at *
      rw [← h3]
      grind
    · show v j * _ = ((if j = w then (v w).num * D else u j * ((v w).den : Int) : Int) : Rat)
      rw [if_neg e]
      have := hu j (by omega)
      push_cast
      rw [← this]
      grind
theorem indep_at {T0 : PM} {m w : Nat} (I : PInv T0 m w w t last ρ) (hwm : w ≤ m) {x : Int} (hx : ev last.co x ≠ 0) (v : Nat → Int) (hv : ∀ r, r < m → sumN w (fun j => ev (pGet T0 r j).co x * v j) = 0) : ∀ j, j < w → v j = 0 := fun j hj => by
  have cr := cramer (r := w) (a := j) (Bx T0 ρ x) (fun _ => 0) v 1 hj fun i hi => by
    have := hv (ρ i) (I.lt i (by omega))
    rw [Int.mul_zero]
    exact this.symm
  rw [det_zero _ hj, ← I.lst x] at cr
  rcases Int.mul_eq_zero.mp (show v j * ev last.co x = 0 by omega) with z | z
  · exact z
  · exact absurd z hx
/-- a point at which the columns are independent -/
theorem good_point (h : SOk s) (hJ : J ≤ 2) (I : PInv ((eqRows s J).map pRow) (eqSize s J) (eqW s J) (eqW s J) t last ρ) (hwm : eqW s J ≤ eqSize s J) : ∃ x : Nat, x ≤ 200 ∧ ∀ v : Nat → Rat, (∀ r, r < eqSize s J → sumQ (eqW s J) (fun j => pv (pGet (eqRows s J) r j) x * v j) = 0) → ∀ j, j < eqW s J → v j = 0 := by
  obtain ⟨_, c2, _, _⟩ := counts h hJ
  obtain ⟨l, l1, l2, l3⟩ := good_rows h hJ _ (Nat.le_refl _)
  have hl := pinv_last (t0ok h hJ) I hwm (Nat.le_refl _)
  have hln : ∃ i, last.co.getD i 0 ≠ 0 := ⟨_, (pz_false I.lw.ok I.lz).2⟩
  obtain ⟨x, hx1, hx2⟩ := small_ne (pml_ne l1 hln)
  have hlen := len_pml l last.co (ne_nil l1) (ne_nil hln)
  have hl41 := hl.2.2
  rw [ev_pml] at hx2
  refine ⟨x, by omega, fun v hv j hj => ?_⟩
  obtain ⟨D, u, hD, hu⟩ := clear_vec v (eqW s J)
  have hz := indep_at I hwm (x := (x : Int)) (fun z => hx2 (by rw [z, Int.mul_zero])) u (fun r hr => by
    obtain ⟨uu, hu0, hj⟩ := l3 x (fun z => hx2 (by rw [z, Int.zero_mul])) r hr
    have h1 := hv r hr
    have h2 : sumQ (eqW s J) (fun j => ((ev (pGet ((eqRows s J).map pRow) r j).co (x : Int) * u j : Int) : Rat)) = ((D : Rat) / uu) * sumQ (eqW s J) (fun j => pv (pGet (eqRows s J) r j) x * v j) := by
      rw [← sumQ_mul]
      refine sumQ_congr fun k hk => ?_
      rw [hj k hk]
      push_cast
      rw [← hu k hk]
      grind
    rw [h1, sumQ_int] at h2
    have h3 : ((sumN (eqW s J) (fun j => ev (pGet ((eqRows s J).map pRow) r j).co (x : Int) * u j) : Int) : Rat) = ((0 : Int) : Rat) := by rw [h2]; grind
    exact_mod_cast h3) j hj
  have h1 := hu j hj
  rw [hz] at h1
  have h2 := den_ne hD
  have h3 : v j * (D : Rat) = 0 := by rw [h1]; rfl
  grind
theorem rM_row {n e : Nat} (he : e < eqSize s J) : (rM (eqRows s J) n).getD e [] = ((eqRows s J).getD e []).map fun p => pAt p (n : Int) :=
  getD_mapG (fun r : List Po => r.map fun p => pAt p (n : Int)) _ _ _ _ (by rw [eqRows_len]; exact he)
theorem rM_get {n e j : Nat} (he : e < eqSize s J) (hj : j < eqW s J) : mGet (rM (eqRows s J) n) e j = pAt (pGet (eqRows s J) e j) n := by
  unfold mGet
  rw [rM_row he]
  exact getD_mapG (fun p : Po => pAt p (n : Int)) _ _ p0 f0 (by rw [row_len he]; exact hj)
theorem raw_pok (h : SOk s) (hJ : J ≤ 2) {e : Nat} (he : e < eqSize s J) (j : Nat) : POk (pGet (eqRows s J) e j) := (rowin h hJ he).ok j
theorem gd_rM (h : SOk s) (hJ : J ≤ 2) (n : Nat) : Gd (eqSize s J) (eqW s J) (rM (eqRows s J) n) := by
  refine ⟨by unfold rM; rw [List.length_map, eqRows_len], fun i hi => ⟨by rw [rM_row hi, List.length_map, row_len hi], fun j => ?_⟩⟩
  by_cases hj : j < eqW s J
  · rw [rM_get hi hj]
    exact fok_mkF _ (raw_pok h hJ hi j).ne
  · unfold mGet
    rw [getD_outF (by rw [rM_row hi, List.length_map, row_len hi]; omega)]
    exact fok_f0
theorem mv_rM (h : SOk s) (hJ : J ≤ 2) {n e j : Nat} (he : e < eqSize s J) (hj : j < eqW s J) : mv (rM (eqRows s J) n) e j = pv (pGet (eqRows s J) e j) n := by
  unfold mv
  rw [rM_get he hj]
  exact fv_at n (raw_pok h hJ he j).ne
def isInv : KA → Bool
  | .vec _ => false
  | .inv _ => true
theorem least_inv (f : Nat → KA) : ∀ N, isInv (f N) = true → ∃ n, n ≤ N ∧ isInv (f n) = true ∧ ∀ i, i < n → isInv (f i) = false
  | 0, h => ⟨0, Nat.le_refl _, h, fun i hi => absurd hi (by omega)⟩
  | N + 1, h => by
    by_cases k : ∃ i, i ≤ N ∧ isInv (f i) = true
    · obtain ⟨i, hi, e⟩ := k
      -- the least of those up to i
      have : ∀ N, (∃ i, i ≤ N ∧ isInv (f i) = true) → ∃ n, n ≤ N ∧ isInv (f n) = true ∧ ∀ i, i < n → isInv (f i) = false := fun N => by
        induction N with
        | zero =>
          rintro ⟨i, hi, e⟩
          exact ⟨i, hi, e, fun k hk => absurd hk (by omega)⟩
        | succ N ih =>
          rintro ⟨i, hi, e⟩
          by_cases k : ∃ i, i ≤ N ∧ isInv (f i) = true
          · obtain ⟨n, a, b, c⟩ := ih k
            exact ⟨n, by omega, b, c⟩
          · refine ⟨i, hi, e, fun j hj => ?_⟩
            cases hh : isInv (f j) with
            | false => rfl
            | true => exact absurd ⟨j, by omega, hh⟩ k
      obtain ⟨n, a, b, c⟩ := this N ⟨i, hi, e⟩
      exact ⟨n, by omega, b, c⟩
    · refine ⟨N + 1, Nat.le_refl _, h, fun j hj => ?_⟩
      cases hh : isInv (f j) with
      | false => rfl
      | true => exact absurd ⟨j, by omega, hh⟩ k
/-- the first point -/
theorem point_out (h : SOk s) (hJ : J ≤ 2) (I : PInv ((eqRows s J).map pRow) (eqSize s J) (eqW s J) (eqW s J) t last ρ) (hwm : eqW s J ≤ eqSize s J) : ∃ (N : Nat) (m : Mx), N ≤ 200 ∧ kernelM (rM (eqRows s J) N) (eqW s J) = .inv m ∧ ∀ i, i < N → isInv (kernelM (rM (eqRows s J) i) (eqW s J)) = false := by
  obtain ⟨x, hx, hv⟩ := good_point h hJ I hwm
  have hG := gd_rM h hJ x
  obtain ⟨m, hm⟩ := kernel_is_inv hG (piv_of_ind hG (fun v hk j hj => hv v (fun r hr => by
    rw [← hk r hr]
    exact sumQ_congr fun j hj => by rw [mv_rM h hJ hr hj]) j hj) _ (Nat.le_refl _))
  obtain ⟨N, h1, h2, h3⟩ := least_inv (fun i => kernelM (rM (eqRows s J) i) (eqW s J)) x (by show isInv (kernelM _ _) = true; rw [hm]; rfl)
  have h2 : isInv (kernelM (rM (eqRows s J) N) (eqW s J)) = true := h2
  cases e : kernelM (rM (eqRows s J) N) (eqW s J) with
  | vec v => rw [e] at h2; cases h2
  | inv m' => exact ⟨N, m', by omega, e, h3⟩
/-! ### sizes -/
theorem raw_zp (h : SOk s) (hJ : J ≤ 2) {e : Nat} (he : e < eqSize s J) (j : Nat) : ZP 13 6 (pGet (eqRows s J) e j) := by
  have H := rowin h hJ he
  refine ⟨⟨(H.ok j).ne, ?_, lg_nrm (Nat.lt_of_le_of_lt (H.nm j) (by decide))⟩, H.ln j⟩
  have hd7 := abs7 h.b.b.2.2
  have h2 : (pGet (eqRows s J) e j).den.natAbs ≤ s.b.den.natAbs := Nat.le_of_dvd (Int.natAbs_pos.mpr h.fb.ne) (Int.natAbs_dvd_natAbs.mpr (H.dn j))
  exact lg_lt (show (pGet (eqRows s J) e j).den.natAbs < 2 ^ (13 + 1) by omega)
theorem lg200 {n : Nat} (h : n ≤ 200) : lg (n : Int) ≤ 7 := lg_lt (by rw [Int.natAbs_natCast]; omega)
theorem tf_rM (h : SOk s) (hJ : J ≤ 2) {n : Nat} (hn : n ≤ 200) : TF 67 (eqSize s J) (eqW s J) (rM (eqRows s J) n) := by
  refine ⟨by unfold rM; rw [List.length_map, eqRows_len], fun r hr => ?_⟩
  obtain ⟨r0, h0, rfl⟩ := List.mem_map.mp hr
  obtain ⟨e, he, rfl⟩ := List.getElem_of_mem h0
  rw [eqRows_len] at he
  have eg : (eqRows s J)[e]'(by rw [eqRows_len]; exact he) = (eqRows s J).getD e [] := by rw [List.getD_eq_getElem?_getD, List.getElem?_eq_getElem (by rw [eqRows_len]; exact he)]; rfl
  rw [eg]
  refine ⟨by rw [List.length_map, row_len he], fun f hf => ?_⟩
  obtain ⟨p, hp, rfl⟩ := List.mem_map.mp hf
  obtain ⟨j, hj, rfl⟩ := mem_getD hp
  obtain ⟨z1, z2⟩ := raw_zp h hJ he j
  have z2' : (((eqRows s J).getD e []).getD j p0).co.length ≤ 6 := z2
  have := sz_pAt z1 (lg200 hn)
  refine SzF.mono this ?_
  have := Nat.mul_le_mul_right (7 + 2) z2'
  show 13 + (((eqRows s J).getD e []).getD j p0).co.length * (7 + 2) ≤ 67
  omega
theorem bk6 : bk 67 6 = 282622 := by decide
theorem bk_small {w : Nat} (hw : w ≤ 6) : bk 67 w ≤ 282622 := by rw [← bk6]; exact bk_mono 67 hw
end
end G
end
section
/-! The telescoper that the kernel vector gives. -/
namespace G
theorem sumQ_comm (f : Nat → Nat → Rat) (m : Nat) : ∀ n, sumQ n (fun i => sumQ m fun j => f i j) = sumQ m fun j => sumQ n fun i => f i j
  | 0 => (sumQ_zero fun j _ => rfl).symm
  | n + 1 => by
    show sumQ n _ + sumQ m (fun j => f n j) = _
    rw [sumQ_comm f m n, ← sumQ_add]
    rfl
theorem sumQ_split (f : Nat → Rat) (a : Nat) : ∀ b, sumQ (a + b) f = sumQ a f + sumQ b fun i => f (a + i)
  | 0 => by show sumQ a f = sumQ a f + 0; grind
  | b + 1 => by
    show sumQ (a + b) f + f (a + b) = sumQ a f + (sumQ b (fun i => f (a + i)) + f (a + b))
    rw [sumQ_split f a b]; grind
theorem pow_neI {a : Int} (h : a ≠ 0) : ∀ n, a ^ n ≠ 0
  | 0 => by rw [Int.pow_zero]; decide
  | n + 1 => by rw [Int.pow_succ]; exact mul_ne (pow_neI h n) h
section
variable {s : Bsum} {J : Nat} {v : List Po}
theorem piece_len {j : Nat} (hj : j < eqW s J) : ((pieces s J).getD j []).length ≤ eqSize s J := by
  have hj' : j < (pieces s J).length := hj
  have hm : qDk ((pieces s J).getD j []) ∈ (pieces s J).map qDk := List.mem_map.mpr ⟨_, getD_memL hj', rfl⟩
  have h1 := (maxOf_spec (l := (pieces s J).map qDk) (by rw [List.length_map]; omega)).2 _ hm
  have e : eqSize s J = (1 + maxOf ((pieces s J).map qDk)).toNat := rfl
  unfold qDk at h1
  rw [e]
  unfold qDk
  omega
theorem qv_rows {q : Q2} {m : Nat} (h : q.length ≤ m) (x : Int) (y : Rat) : qv q x y = sumQ m fun e => pv (qRow q e) x * y ^ e := by
  rw [qv_sum x y q h]
  exact sumQ_congr fun e _ => by rw [qRow_eq]
/-- the value of the vector's entry -/
def vv (v : List Po) (j : Nat) (x : Int) : Rat := (ev (v.getD j p0).co x : Rat)
theorem ident (h : SOk s) (V : VecOut s J v) : Evt fun x => ∀ y : Rat, sumQ (J + 1) (fun j => vv v j x * qv (column s J j) x y) + sumQ (nM s J) (fun i => vv v (J + 1 + i) x * qv (mpiece s J i) x y) = 0 := by
  refine V.ker.mono fun x hx y => ?_
  have hw := eqW_eq s J
  have h1 : sumQ (eqW s J) (fun j => vv v j x * qv ((pieces s J).getD j []) x y) = 0 := by
    have e1 : sumQ (eqW s J) (fun j => vv v j x * qv ((pieces s J).getD j []) x y) = sumQ (eqW s J) fun j => sumQ (eqSize s J) fun e => y ^ e * (pv (pGet (eqRows s J) e j) x * vv v j x) := sumQ_congr fun j hj => by
      rw [qv_rows (piece_len hj), ← sumQ_mul]
      refine sumQ_congr fun e he => ?_
      have : pGet (eqRows s J) e j = qRow ((pieces s J).getD j []) e := row_get he j
      rw [this]
      grind
    rw [e1, sumQ_comm]
    refine sumQ_zero fun e he => ?_
    rw [sumQ_mul]
    have : sumQ (eqW s J) (fun j => pv (pGet (eqRows s J) e j) x * vv v j x) = 0 := hx e he
    rw [this]
    grind
  rw [hw, sumQ_split] at h1
  rw [← h1]
  congr 1
  · exact sumQ_congr fun j hj => by rw [piece_get, if_pos hj]
  · exact sumQ_congr fun i hi => by
      rw [piece_get, if_neg (by omega), if_pos (by omega), show J + 1 + i - (J + 1) = i by omega]
def vM (s : Bsum) (J : Nat) (v : List Po) (x : Int) (y : Rat) : Rat := sumQ (nM s J) fun i => vv v (J + 1 + i) x * y ^ i
theorem qv_mpiece (h : SOk s) (i : Nat) (x : Int) (y : Rat) : qv (mpiece s J i) x y = qv (backward s) x y * y ^ i - qv (forward s J) x y * (y + 1) ^ i := by
  have b := (rv_bw s).1
  have f := (rv_fw h J).1
  have l1 := qok_line 0 1 0
  have l2 := qok_line 0 1 1
  have p1 := (qok_pow l1.dn i).dn
  have p2 := (qok_pow l2.dn i).dn
  unfold mpiece
  rw [qv_sub (qok_mul b.dn p1).dn (qok_mul f.dn p2).dn, qv_mul b.dn p1, qv_mul f.dn p2, qv_pow l1.dn, qv_pow l2.dn, qv_line, qv_line]
  have e1 : ((0 : Int) : Rat) * (x : Rat) + ((1 : Int) : Rat) * y + ((0 : Int) : Rat) = y := by push_cast; grind
  have e2 : ((0 : Int) : Rat) * (x : Rat) + ((1 : Int) : Rat) * y + ((1 : Int) : Rat) = y + 1 := by push_cast; grind
  rw [e1, e2]
/-- the telescoping identity -/
theorem tele (h : SOk s) (V : VecOut s J v) : Evt fun x => ∀ y : Rat, sumQ (J + 1) (fun j => vv v j x * qv (column s J j) x y) = qv (forward s J) x y * vM s J v x (y + 1) - qv (backward s) x y * vM s J v x y := (ident h V).mono fun x hx y => by
  have h1 := hx y
  have h2 : sumQ (nM s J) (fun i => vv v (J + 1 + i) x * qv (mpiece s J i) x y) = qv (backward s) x y * vM s J v x y - qv (forward s J) x y * vM s J v x (y + 1) := by
    unfold vM
    rw [← sumQ_mul, ← sumQ_mul, ← sumQ_sub]
    refine sumQ_congr fun i _ => ?_
    rw [qv_mpiece h]
    grind
  rw [h2] at h1
  grind
/-! ### the first part is not zero -/
theorem fw_val (h : SOk s) (x y : Int) : qv (forward s J) x (y : Rat) * (s.b.den : Rat) = ((s.b.num * (((x - y + (J : Int)) ^ s.ch * (x + y + 1) ^ s.ri) * (4 * y + 2) ^ s.ce) : Int) : Rat) := by
  have := (rv_fw h J).2 x y
  rw [this]
  unfold fwC
  rw [ev2_psm, ev2_pml, ev2_pml, ev2_pow, ev2_pow, ev2_pow, ev2_line, ev2_line, ev2_line]
  have e1 : 1 * x + -1 * y + (J : Int) = x - y + (J : Int) := by omega
  have e2 : 1 * x + 1 * y + 1 = x + y + 1 := by omega
  have e3 : 0 * x + 4 * y + 2 = 4 * y + 2 := by omega
  rw [e1, e2, e3]
theorem bw_val (x y : Int) : qv (backward s) x (y : Rat) = ((y ^ facs s : Int) : Rat) := by
  have := (rv_bw s).2 x y
  rw [ev2_pow, ev2_line] at this
  have e : 0 * x + 1 * y + 0 = y := by omega
  rw [e] at this
  rw [← this]
  grind
theorem rpow_cast (y : Int) : ∀ i : Nat, ((y ^ i : Int) : Rat) = (y : Rat) ^ i
  | 0 => by rw [Int.pow_zero, Rat.pow_zero]; rfl
  | i + 1 => by rw [Int.pow_succ, Rat.pow_succ, ← rpow_cast y i]; push_cast; rfl
theorem ev_sumQ (f : Nat → Int) (y : Int) : ∀ m, ((ev ((List.range m).map f) y : Int) : Rat) = sumQ m fun i => (f i : Rat) * (y : Rat) ^ i
  | 0 => rfl
  | m + 1 => by
    have ih := ev_sumQ f y m
    have e : (List.range (m + 1)).map f = (List.range m).map f ++ [f m] := by rw [List.range_succ, List.map_append]; rfl
    have e2 : ∀ (l : List Int) (a : Int), ev (l ++ [a]) y = ev l y + a * y ^ l.length := fun l a => by
      induction l with
      | nil =>
        show a + y * 0 = 0 + a * y ^ 0
        rw [Int.pow_zero]; omega
      | cons b l ih =>
        show b + y * ev (l ++ [a]) y = (b + y * ev l y) + a * y ^ (l.length + 1)
        rw [ih, Int.pow_succ]; grind
    rw [e, e2, List.length_map, List.length_range]
    show _ = sumQ m _ + (f m : Rat) * (y : Rat) ^ m
    rw [← ih, ← rpow_cast]
    push_cast
    rfl
theorem first_part (h : SOk s) (hJ : J ≤ 2) (V : VecOut s J v) : ∃ j, j ≤ J ∧ pZ (v.getD j p0) = false := by
  apply Classical.byContradiction
  intro z
  have hz : ∀ j, j < J + 1 → pZ (v.getD j p0) = true := fun j hj => by
    cases e : pZ (v.getD j p0) with
    | true => rfl
    | false => exact absurd ⟨j, by omega, e⟩ z
  obtain ⟨c, hc, hcz⟩ := V.nz
  have hcJ : J + 1 ≤ c := by
    apply Decidable.byContradiction
    intro y
    rw [hz c (by omega)] at hcz
    cases hcz
  have hw := eqW_eq s J
  obtain ⟨hn5, _⟩ := counts h hJ
  have hcn := pz_false (V.wh c hc).ok hcz
  obtain ⟨F1, _⟩ := fac12 h.b
  obtain ⟨x, ⟨hx1, hx2⟩, hx3⟩ := (((tele h V).and (evt_ne ⟨_, hcn.2⟩)).and (Evt.ge 20)).ex
  have hv0 : ∀ j, j < J + 1 → vv v j x = 0 := fun j hj => by
    unfold vv
    rw [ev_pz (hz j hj)]
    rfl
  let L := (List.range (nM s J)).map fun i => ev (v.getD (J + 1 + i) p0).co (x : Int)
  have hL : ∀ y : Int, ((ev L y : Int) : Rat) = vM s J v x (y : Rat) := fun y => ev_sumQ _ y _
  have step : ∀ y : Int, (s.b.num * (((x - y + (J : Int)) ^ s.ch * (x + y + 1) ^ s.ri) * (4 * y + 2) ^ s.ce)) * ev L (y + 1) = s.b.den * (y ^ facs s) * ev L y := fun y => by
    have h1 := hx1 (y : Rat)
    rw [sumQ_zero fun j hj => by rw [hv0 j hj]; grind] at h1
    have h2 := fw_val (J := J) h x y
    have h3 := bw_val (s := s) x y
    have h4 := hL y
    have h5 := hL (y + 1)
    have e : (((y + 1 : Int)) : Rat) = (y : Rat) + 1 := by push_cast; rfl
    rw [e] at h5
    rw [← h4, ← h5, h3] at h1
    have : ((((s.b.num * (((x - y + (J : Int)) ^ s.ch * (x + y + 1) ^ s.ri) * (4 * y + 2) ^ s.ce)) : Int)) : Rat) * ((ev L (y + 1) : Int) : Rat) = (s.b.den : Rat) * ((y ^ facs s : Int) : Rat) * ((ev L y : Int) : Rat) := by
      rw [← h2]
      grind
    exact_mod_cast this
  have van : ∀ k : Nat, k < 10 → ev L ((k : Int) + 1) = 0 := fun k => by
    induction k with
    | zero =>
      intro _
      have h1 := step 0
      have e0 : (0 : Int) ^ facs s = 0 := by
        obtain ⟨g, hg⟩ : ∃ g, facs s = g + 1 := ⟨facs s - 1, by omega⟩
        rw [hg, Int.pow_succ, Int.mul_zero]
      have h1 := h1.trans (by rw [e0]; grind : s.b.den * (0 ^ facs s) * ev L 0 = 0)
      show ev L (0 + 1) = 0
      refine (Int.mul_eq_zero.mp h1).resolve_left (mul_ne h.b.b0 (mul_ne (mul_ne (pow_neI (by omega) _) (pow_neI (by omega) _)) (pow_neI (by omega) _)))
    | succ k ih =>
      intro hk
      have h1 := step ((k : Int) + 1)
      rw [ih (by omega), Int.mul_zero] at h1
      have e : ((k + 1 : Nat) : Int) = (k : Int) + 1 := by omega
      rw [e]
      refine (Int.mul_eq_zero.mp h1).resolve_left (mul_ne h.b.b0 (mul_ne (mul_ne (pow_neI (by omega) _) (pow_neI (by omega) _)) (pow_neI (by omega) _)))
  have hLl : L.length = nM s J := by show ((List.range _).map _).length = _; rw [List.length_map, List.length_range]
  have hnz : ∃ i, L.getD i 0 ≠ 0 := by
    refine ⟨c - (J + 1), ?_⟩
    show ((List.range (nM s J)).map fun i => ev (v.getD (J + 1 + i) p0).co (x : Int)).getD (c - (J + 1)) 0 ≠ 0
    rw [getD_rangeMap, if_pos (by omega), show J + 1 + (c - (J + 1)) = c by omega]
    exact hx2
  have := roots_le L.length L (Nat.le_refl _) hnz [1, 2, 3, 4, 5, 6] (by decide) fun y hy => by
    have h6 : y = 1 ∨ y = 2 ∨ y = 3 ∨ y = 4 ∨ y = 5 ∨ y = 6 := by simpa using hy
    rcases h6 with e | e | e | e | e | e <;> subst e
    · exact van 0 (by omega)
    · exact van 1 (by omega)
    · exact van 2 (by omega)
    · exact van 3 (by omega)
    · exact van 4 (by omega)
    · exact van 5 (by omega)
  have h6 : ([1, 2, 3, 4, 5, 6] : List Int).length = 6 := rfl
  omega
/-! ### the certificate -/
theorem totN_val (h : SOk s) {op : Q2} (ho : QOk op) : ∀ n, n ≤ J + 1 → QOk (totN s J op n) ∧ ∀ (x : Int) (y : Rat), qv (totN s J op n) x y = sumQ n fun j => pv (op.getD j p0) x * qv (column s J j) x y
  | 0, _ => ⟨qok_mkQ fun j => by rw [show ([] : List Po).getD j p0 = p0 by simp]; exact pok_p0, fun x y => qv_mkQ [] x y⟩
  | n + 1, hn => by
    obtain ⟨a, b⟩ := totN_val h ho n (by omega)
    have c := (rv_col h (show n ≤ J by omega)).1
    have i : QOk (qInN (qRow op n)) := qok_inN (by rw [qRow_eq]; exact ho.ok n)
    have m := qok_mul i.dn c.dn
    have e : totN s J op (n + 1) = qAdd (totN s J op n) (qMul (qInN (qRow op n)) (column s J n)) := rfl
    rw [e]
    refine ⟨qok_add a.dn m.dn, fun x y => ?_⟩
    rw [qv_add a.dn m.dn, b, qv_mul i.dn c.dn, qv_inN, qRow_eq]
    rfl
theorem mem_mkQ {l : List Po} {p : Po} (h : p ∈ mkQ l) : p ∈ l := trimBy_sub h
theorem mkQ_len (l : List Po) : (mkQ l).length ≤ l.length := by unfold mkQ; rw [trimBy_len]; exact trimLen_le _ _
theorem mkQ_ne {l : List Po} {j : Nat} (hj : j < l.length) (hz : pZ (l.getD j p0) = false) : (mkQ l).length ≠ 0 := fun e => by
  have h0 : trimLen pZ l = 0 := by rw [← trimBy_len]; exact e
  rw [List.getD_eq_getElem?_getD, List.getElem?_eq_getElem hj] at hz
  have := trimLen_out pZ l j l[j] (by omega) (List.getElem?_eq_getElem hj)
  have hz2 : pZ l[j] = false := hz
  rw [hz2] at this
  cases this
theorem vec_mem (V : VecOut s J v) {p : Po} (h : p ∈ v) : WhP p ∧ WP 500 15 p := by
  obtain ⟨j, hj, rfl⟩ := mem_getD h
  rw [V.len] at hj
  exact ⟨V.wh j hj, V.bd j hj⟩
theorem tel_ok (h : SOk s) (hJ : J ≤ 2) (V : VecOut s J v) : TelOk s J (mkQ (v.take (J + 1))) (mkQ (v.drop (J + 1))) := by
  have hw := eqW_eq s J
  have hvl := V.len
  obtain ⟨hn5, _⟩ := counts h hJ
  obtain ⟨j0, hj0, hj0z⟩ := first_part h hJ V
  have ok1 : QOk (mkQ (v.take (J + 1))) := qok_mkQ (pok_all fun p hp => (vec_mem V (List.mem_of_mem_take hp)).1.ok)
  have ok2 : QOk (mkQ (v.drop (J + 1))) := qok_mkQ (pok_all fun p hp => (vec_mem V (List.mem_of_mem_drop hp)).1.ok)
  refine ⟨h.b, hJ, ?_, ?_, fun p hp => ?_, ⟨?_, fun p hp => ?_⟩, ?_⟩
  · refine mkQ_ne (j := j0) (by rw [List.length_take]; omega) ?_
    rw [List.getD_eq_getElem?_getD, List.getElem?_take, if_pos (by omega), ← List.getD_eq_getElem?_getD]
    exact hj0z
  · have := mkQ_len (v.take (J + 1))
    rw [List.length_take] at this
    omega
  · exact (vec_mem V (List.mem_of_mem_take (mem_mkQ hp))).2.z.mono (by decide) (by decide)
  · have := mkQ_len (v.drop (J + 1))
    rw [List.length_drop] at this
    omega
  · exact (vec_mem V (List.mem_of_mem_drop (mem_mkQ hp))).2.mono (by decide) (by decide)
  · obtain ⟨t1, t2⟩ := totN_val h ok1 (J + 1) (Nat.le_refl _)
    have f := (rv_fw h J).1
    have b := (rv_bw s).1
    have mo := qok_moved ok2.dn 0 1
    have m1 := qok_mul f.dn mo.dn
    have m2 := qok_mul b.dn ok2.dn
    refine q_eq t1 (qok_sub m1.dn m2.dn) ((tele h V).mono fun x hx y => ?_)
    have hvm : ∀ y : Rat, qv (mkQ (v.drop (J + 1))) x y = vM s J v x y := fun y => by
      rw [qv_mkQ, qv_sum x y _ (m := nM s J) (by rw [List.length_drop]; omega)]
      unfold vM
      refine sumQ_congr fun i hi => ?_
      have e : (v.drop (J + 1)).getD i p0 = v.getD (J + 1 + i) p0 := by
        rw [List.getD_eq_getElem?_getD, List.getD_eq_getElem?_getD, List.getElem?_drop]
      rw [e, (V.wh (J + 1 + i) (by omega)).pv]
      rfl
    rw [t2]
    unfold rhs
    have e0 : x + 0 = x := by omega
    have e1 : (y : Rat) + ((1 : Int) : Rat) = (y : Rat) + 1 := by push_cast; rfl
    rw [qv_sub m1.dn m2.dn, qv_mul f.dn mo.dn, qv_mul b.dn ok2.dn, qv_moved ok2.dn, e0, e1, hvm, hvm]
    rw [← hx (y : Rat)]
    refine sumQ_congr fun j hj => ?_
    rw [getD_mkQ]
    have e : (v.take (J + 1)).getD j p0 = v.getD j p0 := by
      rw [List.getD_eq_getElem?_getD, List.getD_eq_getElem?_getD, List.getElem?_take, if_pos hj]
    rw [e, (V.wh j (by omega)).pv]
    rfl
end
end G
end
section
/-! The sums of the law; order 0 without a vector. -/
namespace G
theorem mkP_ne {cs : List Int} {i : Nat} (h : cs.getD i 0 ≠ 0) : pZ (mkP cs 1) = false := by
  cases e : pZ (mkP cs 1) with
  | false => rfl
  | true =>
    exfalso
    have h1 := pz_nil e
    rw [mkP_one] at h1
    have h2 : trim cs = [] := h1
    rw [← getD_trim, h2] at h
    exact h (by simp)
theorem fm (a : Int) {b : Int} (hb : 0 < b) : 0 ≤ a.fmod b ∧ a.fmod b < b := ⟨Int.fmod_nonneg_of_pos a hb, Int.fmod_lt_of_pos a hb⟩
theorem lg4 {x : Int} (h : x.natAbs ≤ 7) : lg x ≤ 2 := lg_lt (show x.natAbs < 2 ^ (2 + 1) by omega)
theorem pCh_cases (a : Int) : pCh a = 1 ∨ pCh a = 2 := by unfold pCh; split <;> omega
theorem shape_l (a : Int) : 1 ≤ pCh a ∧ pCh a + pRi a + pCe a ≤ 2 ∧ pCe a ≤ 1 := by
  have h := fm (a.fdiv 4) (show (0 : Int) < 3 by decide)
  unfold pRi pCe
  rcases pCh_cases a with e | e
  · rw [e]
    split <;> split <;> omega
  · rw [e]
    split <;> split <;> omega
theorem pNum_l (a b c : Int) : (pNum a b c).natAbs ≤ 7 ∧ pNum a b c ≠ 0 := by
  have h := fm b (show (0 : Int) < 9 by decide)
  unfold pNum
  split
  · rcases pCh_cases a with e | e <;> rw [e] <;> decide
  · split <;> omega
theorem pDen_l (a b c : Int) : (pDen a b c).natAbs ≤ 7 ∧ pDen a b c ≠ 0 := by
  have h := fm (b.fdiv 9) (show (0 : Int) < 3 by decide)
  have h2 := (shape_l a).2.2
  unfold pDen
  split
  · have : pCe a = 0 ∨ pCe a = 1 := by omega
    rcases this with e | e <;> rw [e] <;> decide
  · omega
def WtOk (w : List (List Int)) : Prop := w.length ≤ 2 ∧ (∀ r ∈ w, r.length ≤ 2 ∧ ∀ x ∈ r, x.natAbs ≤ 7) ∧ ∃ j i, (w.getD j []).getD i 0 ≠ 0
theorem pWt_l (a b c : Int) : WtOk (pWt a b c) := by
  unfold pWt
  split
  · split
    · refine ⟨by decide, ?_, 1, 0, by decide⟩
      decide
    · rename_i h
      have h1 := fm b (show (0 : Int) < 7 by decide)
      have h2 := fm (b.fdiv 7) (show (0 : Int) < 7 by decide)
      have h3 := fm c (show (0 : Int) < 7 by decide)
      have h4 := fm (c.fdiv 7) (show (0 : Int) < 3 by decide)
      unfold pWt0 at h ⊢
      refine ⟨by simp, fun r hr => ?_, ?_⟩
      · rcases List.mem_cons.mp hr with rfl | hr
        · refine ⟨by simp, fun x hx => ?_⟩
          rcases List.mem_cons.mp hx with rfl | hx
          · omega
          · rw [List.mem_singleton.mp hx]; omega
        · rw [List.mem_singleton.mp hr]
          refine ⟨by simp, fun x hx => ?_⟩
          rcases List.mem_cons.mp hx with rfl | hx
          · omega
          · rw [List.mem_singleton.mp hx]; omega
      · generalize b.fmod 7 - 3 = x0 at *
        generalize (b.fdiv 7).fmod 7 - 3 = x1 at *
        generalize c.fmod 7 - 3 = x2 at *
        generalize (c.fdiv 7).fmod 3 - 1 = x3 at *
        by_cases e0 : x0 = 0
        · by_cases e1 : x1 = 0
          · by_cases e2 : x2 = 0
            · by_cases e3 : x3 = 0
              · exact absurd (by rw [e0, e1, e2, e3]) h
              · exact ⟨1, 1, by simpa using e3⟩
            · exact ⟨1, 0, by simpa using e2⟩
          · exact ⟨0, 1, by simpa using e1⟩
        · exact ⟨0, 0, by simpa using e0⟩
  · refine ⟨by decide, ?_, 0, 0, by decide⟩
    decide
theorem wt_ne {w : List (List Int)} (h : WtOk w) : (mkQ (w.map fun r => mkP r 1)).length ≠ 0 := by
  obtain ⟨_, _, j, i, hij⟩ := h
  have hj : j < w.length := by
    apply Decidable.byContradiction
    intro z
    rw [show w.getD j [] = [] from getD_outB (by omega)] at hij
    exact hij (by simp)
  refine mkQ_ne (j := j) (by rw [List.length_map]; exact hj) ?_
  rw [getD_mapG (fun r : List Int => mkP r 1) w j [] p0 hj]
  exact mkP_ne hij
theorem made_ok (l : List Int) : MadeOk (lParts l) := by
  have hw := pWt_l (l.getD 2 0) (l.getD 3 0) (l.getD 4 0)
  have hd := pDen_l (l.getD 0 0) (l.getD 1 0) (l.getD 2 0)
  have hn := pNum_l (l.getD 0 0) (l.getD 1 0) (l.getD 2 0)
  refine ⟨hd.2, mkF_num_ne hd.2 hn.2, wt_ne hw, (shape_l _).1, ?_, fun r hr => ?_⟩
  · have := hw.1
    show (pWt _ _ _).length ≤ 1000
    omega
  · have := (hw.2.1 r hr).1
    omega
theorem sok (l : List Int) : SOk (lMade (lParts l)) := by
  have hw := pWt_l (l.getD 2 0) (l.getD 3 0) (l.getD 4 0)
  have hd := pDen_l (l.getD 0 0) (l.getD 1 0) (l.getD 2 0)
  have hn := pNum_l (l.getD 0 0) (l.getD 1 0) (l.getD 2 0)
  have M := made_ok l
  have hp : ∀ p ∈ (lParts l).wt.map fun r => mkP r 1, WP 2 2 p ∧ POk p := fun p hp => by
    obtain ⟨r, hr, rfl⟩ := List.mem_map.mp hp
    obtain ⟨h1, h2⟩ := hw.2.1 r hr
    exact ⟨wp_mkP (fun c hc => lg4 (h2 c hc)) h1, pok_mkP _ (by decide)⟩
  refine ⟨⟨wq_mkQ (by rw [List.length_map]; exact hw.1) fun p h => (hp p h).1, sz_mkF hd.2 (lg4 hn.1) (lg4 hd.1), M.num, M.ch, (shape_l _).2.1⟩, fok_mkF _ hd.2, qok_mkQ (pok_all fun p h => (hp p h).2), M.wt⟩
/-- order 0 with one column: no vector -/
theorem no_vec0 {s : Bsum} {v : List Po} (h : SOk s) (hw1 : eqW s 0 = 1) (V : VecOut s 0 v) : False := by
  have hw := eqW_eq s 0
  obtain ⟨j, hj, hz⟩ := first_part h (by omega) V
  have hj0 : j = 0 := by omega
  subst hj0
  have hnz := pz_false (V.wh 0 (by omega)).ok hz
  have hnil : QOk [] := ⟨fun j => by rw [show ([] : List Po).getD j p0 = p0 by simp]; exact pok_p0, .inl rfl⟩
  have e : s.w = [] := q_eq h.w hnil (((tele h V).and (evt_ne ⟨_, hnz.2⟩)).mono fun x ⟨h1, h2⟩ y => by
    have h3 := h1 (y : Rat)
    have hvm : ∀ y : Rat, vM s 0 v x y = 0 := fun y => by
      unfold vM
      rw [show nM s 0 = 0 by omega]
      rfl
    rw [hvm, hvm] at h3
    have h4 : vv v 0 x * qv (column s 0 0) x (y : Rat) = 0 := by
      have : sumQ (0 + 1) (fun j => vv v j x * qv (column s 0 j) x (y : Rat)) = 0 + vv v 0 x * qv (column s 0 0) x (y : Rat) := rfl
      rw [this] at h3
      grind
    have h5 : vv v 0 x ≠ 0 := den_ne h2
    have h6 : qv (column s 0 0) x (y : Rat) = 0 := by grind
    have r1 := (rv_col h (Nat.le_refl 0)).2 x y
    have r2 := rv_w h 0 x y
    rw [h6] at r1
    have ec : ev2 (colC s.ch s.ri 0 0) x y = 1 := by
      unfold colC
      have e1 : prodBN (chB 0) 0 = [[1]] := rfl
      have e2 : prodBN (riB 0) 0 = [[1]] := rfl
      have e3 : ev2 [[1]] x y = 1 := by show (1 + x * 0) + y * 0 = 1; omega
      rw [e1, e2, ev2_pml, ev2_pow, ev2_pow, e3, Int.one_pow, Int.one_pow]
      rfl
    rw [ev2_pml, ec, Int.mul_one, ← r2, qv_moved h.w.dn] at r1
    have e0 : x + ((0 : Nat) : Int) = x := by omega
    rw [e0] at r1
    have e4 : (y : Rat) + ((0 : Int) : Rat) = (y : Rat) := by push_cast; grind
    rw [e4] at r1
    show qv s.w x (y : Rat) = 0
    grind)
  exact h.wn (by rw [e]; rfl)
end G
end
section
/-! The law of each sum. -/
namespace G
theorem find_stop (rows : PM) : ∀ w, ∃ c, c ≤ w ∧ (∀ i, i < c → ∃ pl, ppP (pkN rows i).t i i = some pl) ∧ (c = w ∨ (c < w ∧ ppP (pkN rows c).t c c = none))
  | 0 => ⟨0, Nat.le_refl _, fun i hi => absurd hi (by omega), .inl rfl⟩
  | w + 1 => by
    obtain ⟨c, h1, h2, h3⟩ := find_stop rows w
    rcases h3 with rfl | ⟨h3, h4⟩
    · cases e : ppP (pkN rows c).t c c with
      | none => exact ⟨c, by omega, h2, .inr ⟨by omega, e⟩⟩
      | some pl =>
        refine ⟨c + 1, by omega, fun i hi => ?_, .inl rfl⟩
        by_cases hic : i = c
        · subst hic; exact ⟨pl, e⟩
        · exact h2 i (by omega)
    · exact ⟨c, by omega, h2, .inr ⟨by omega, h4⟩⟩
theorem pk_ok {s : Bsum} {J c : Nat} (h : SOk s) (hJ : J ≤ 2) (hc : c ≤ eqW s J) (hp : ∀ i, i < c → ∃ pl, ppP (pkN (eqRows s J) i).t i i = some pl) : PKOk (eqRows s J) (eqW s J) c := by
  have T := t0ok h hJ
  obtain ⟨_, c2, _, _⟩ := counts h hJ
  have hl := eqRows_len s J
  have w9 := T.w9
  refine ⟨fun r hr => ?_, by omega, by omega, hc, fun c' hc' => ?_, fun c' hc' i hi => ?_, fun c' hc' => ?_⟩
  · obtain ⟨e, he, rfl⟩ := List.getElem_of_mem hr
    have eg : (eqRows s J)[e] = (eqRows s J).getD e [] := by rw [List.getD_eq_getElem?_getD, List.getElem?_eq_getElem he]; rfl
    rw [eg]
    exact prow_ok (rowin h hJ (by omega))
  · obtain ⟨a, ρ, _, I⟩ := pk_run T c' (by omega) fun i hi => hp i (by omega)
    exact ⟨by rw [I.len, hl], by omega⟩
  · obtain ⟨a, ρ, _, I⟩ := pk_run T c' (by omega) fun i hi => hp i (by omega)
    exact I.rl i (by omega)
  · obtain ⟨pl, e⟩ := hp c' hc'
    exact ⟨pl, e, pk_cl T (by omega) (fun i hi => hp i (by omega)) e⟩
theorem rec_of {s : Bsum} {J : Nat} (h : SOk s) (hJ : J ≤ 2) : ∃ a : PA, RecOk s J a ∧ AccOk s (certOf s J a) ∧ ((facs s ≤ J ∨ (leadB s = f1 ∧ facs s ≤ J + 1)) → isRec (certOf s J a) = true) ∧ (isRec (certOf s J a) = true → ∃ v, VecOut s J v) := by
  have T := t0ok h hJ
  obtain ⟨c1, c2, c3, c4⟩ := counts h hJ
  have hl := eqRows_len s J
  have w9 := T.w9
  obtain ⟨c, hc, hp, hs⟩ := find_stop (eqRows s J) (eqW s J)
  obtain ⟨hcm, ρ, hsur, I⟩ := pk_run T c hc hp
  have hPK := pk_ok h hJ hc hp
  rcases hs with rfl | ⟨hcw, e⟩
  · obtain ⟨N, m, hN, hm, hlt⟩ := point_out h hJ I hcm
    have w6 : eqW s J ≤ 6 := by omega
    have hrm : ∀ n, ratM (eqRows s J) n = rM (eqRows s J) n := fun _ => rfl
    have hzp : ∀ r ∈ eqRows s J, r.length ≤ 100000 ∧ ∀ x ∈ r, ZP 13 6 x := fun r hr => by
      obtain ⟨e, he, rfl⟩ := List.getElem_of_mem hr
      have eg : (eqRows s J)[e] = (eqRows s J).getD e [] := by rw [List.getD_eq_getElem?_getD, List.getElem?_eq_getElem he]; rfl
      rw [eg]
      refine ⟨by rw [row_len (by omega)]; omega, fun x hx => ?_⟩
      obtain ⟨j, hj, rfl⟩ := mem_getD hx
      exact raw_zp h hJ (by omega) j
    have hat : ∃ a b L, (∀ r ∈ eqRows s J, r.length ≤ 100000 ∧ ∀ x ∈ r, ZP a L x) ∧ lg (N : Int) ≤ b ∧ a + L * (b + 2) + b < 130000000 ∧ (eqRows s J).length ≤ 100000 := ⟨13, 7, 6, hzp, lg200 hN, by decide, by omega⟩
    have hInv : InvOk (eqRows s J) (eqW s J) N m := by
      refine ⟨hat, fun i hi => ⟨67, eqSize s J, tf_rM h hJ (by omega), ?_, by omega, hcm⟩, fun i hi => ?_, hm⟩
      · have := bk_small w6
        omega
      · have := hlt i hi
        rw [hrm]
        cases hh : kernelM (rM (eqRows s J) i) (eqW s J) with
        | vec v => rfl
        | inv m => rw [hh] at this; cases this
    have hR : RecOk s J (.pt N m) := ⟨h.b, hJ, by omega, hPK, hInv⟩
    refine ⟨.pt N m, hR, ?_, fun hyp => absurd (c4 hyp) (by omega), fun z => by cases z⟩
    have hG := gd_rM h hJ N
    obtain ⟨l1, l2, l3, l4⟩ := inv_left hG hm
    have hTF := tf_rM h hJ hN
    have hred := (redN_ok hTF (eqW s J)).tf
    obtain ⟨_, hme⟩ := piv_of_inv hm
    show NoneOk s J N m
    refine ⟨h.b, hJ, by omega, hat, ⟨282622, 67, fun i c => hTF.get i c, fun r hr => ?_, by omega, by omega⟩, l2, ?_, l4⟩
    · have hrl := l3 r hr
      refine ⟨fun f hf => ?_, by omega, by rw [hrm, hTF.1]; omega, fun i hi => ?_, by omega⟩
      · rw [hme] at hr
        obtain ⟨i, hi, rfl⟩ := List.mem_map.mp hr
        have hi' := List.mem_range.mp hi
        exact ((hred.row (show i < eqSize s J by omega)).2 f (List.mem_of_mem_drop hf)).mono (bk_small w6)
      · rw [hrm, (hTF.row (show i < eqSize s J by omega)).1]
        exact Nat.le_refl _
    · intro r hr
      rw [l3 r hr, hrm, hTF.1]
  · have hV := vec_out h hJ I hsur hcm hcw e
    have hK : KvOk (pkN (eqRows s J) c).t c (pkN (eqRows s J) c).last (eqW s J) := by
      refine ⟨hcw, by omega, by rw [I.len]; omega, fun i hi => ⟨by rw [I.rl i (by omega)]; omega, 400, 41, (pinv_wp T I hcm (by omega) (show i < eqSize s J by omega) hcw).z, by decide⟩, prow_ok (kv_rowin h hJ I hcm hcw)⟩
    refine ⟨.vec c, ⟨h.b, hJ, by omega, hPK, e, hK⟩, tel_ok h hJ hV, fun _ => rfl, fun _ => ⟨_, hV⟩⟩
theorem least_of (f : Nat → Bool) : ∀ F, f F = true → ∃ k, k ≤ F ∧ f k = true ∧ ∀ i, i < k → f i = false
  | 0, h => ⟨0, Nat.le_refl _, h, fun i hi => absurd hi (by omega)⟩
  | F + 1, h => by
    by_cases z : ∃ i, i ≤ F ∧ f i = true
    · have : ∀ F, (∃ i, i ≤ F ∧ f i = true) → ∃ k, k ≤ F ∧ f k = true ∧ ∀ i, i < k → f i = false := fun F => by
        induction F with
        | zero =>
          rintro ⟨i, hi, e⟩
          have : i = 0 := by omega
          subst this
          exact ⟨0, Nat.le_refl _, e, fun k hk => absurd hk (by omega)⟩
        | succ F ih =>
          rintro ⟨i, hi, e⟩
          by_cases z : ∃ i, i ≤ F ∧ f i = true
          · obtain ⟨k, a, b, c⟩ := ih z
            exact ⟨k, by omega, b, c⟩
          · have hiF : i = F + 1 := by
              apply Decidable.byContradiction
              intro y
              exact z ⟨i, by omega, e⟩
            subst hiF
            refine ⟨F + 1, Nat.le_refl _, e, fun j hj => ?_⟩
            cases hh : f j with
            | false => rfl
            | true => exact absurd ⟨j, by omega, hh⟩ z
      obtain ⟨k, a, b, c⟩ := this F z
      exact ⟨k, by omega, b, c⟩
    · refine ⟨F + 1, Nat.le_refl _, h, fun j hj => ?_⟩
      cases hh : f j with
      | false => rfl
      | true => exact absurd ⟨j, by omega, hh⟩ z
theorem law_ok {s : Bsum} (h : SOk s) : LawOk s := by
  have hex : ∀ J, ∃ a : PA, J ≤ 2 → RecOk s J a ∧ AccOk s (certOf s J a) ∧ ((facs s ≤ J ∨ (leadB s = f1 ∧ facs s ≤ J + 1)) → isRec (certOf s J a) = true) ∧ (isRec (certOf s J a) = true → ∃ v, VecOut s J v) := fun J => by
    by_cases hJ : J ≤ 2
    · obtain ⟨a, ha⟩ := rec_of h hJ
      exact ⟨a, fun _ => ha⟩
    · exact ⟨.vec 0, fun z => absurd z hJ⟩
  let pas : Nat → PA := fun J => Classical.choose (hex J)
  have hp : ∀ J, J ≤ 2 → RecOk s J (pas J) ∧ AccOk s (certOf s J (pas J)) ∧ ((facs s ≤ J ∨ (leadB s = f1 ∧ facs s ≤ J + 1)) → isRec (certOf s J (pas J)) = true) ∧ (isRec (certOf s J (pas J)) = true → ∃ v, VecOut s J v) := fun J hJ => Classical.choose_spec (hex J) hJ
  obtain ⟨f1', f2'⟩ := fac12 h.b
  obtain ⟨k, k1, k2, k3⟩ := least_of (fun J => isRec (certOf s J (pas J))) (facs s) ((hp (facs s) f2').2.2.1 (.inl (Nat.le_refl _)))
  have hk2 : k ≤ 2 := by omega
  refine ⟨k, pas, ⟨k1, fun J hJ => (hp J (by omega)).1, k3, k2⟩, fun J hJ => (hp J (by omega)).2.1, fun J hJ1 hJ2 => ⟨pas J, (hp J (by omega)).1, ?_, (hp J (by omega)).2.1⟩⟩
  by_cases hJk : J = k
  · subst hJk; exact k2
  · have hJ3 : J ≤ 2 := by omega
    have hJs : J = k + 1 := by omega
    by_cases hf : facs s ≤ J
    · exact (hp J hJ3).2.2.1 (.inl hf)
    · have hk0 : k = 0 := by omega
      have hF2 : facs s = 2 := by omega
      subst hk0
      by_cases hl : leadB s = f1
      · exact (hp J hJ3).2.2.1 (.inr ⟨hl, by omega⟩)
      · obtain ⟨v, V⟩ := (hp 0 (by omega)).2.2.2 k2
        exact (no_vec0 h (eqW_one h hF2 hl) V).elim
end G
end
theorem PySem.Challenge.cw_certsums_k89_whole_sums_decided_holds : PySem.Challenge.rw_certsums_k89_whole_sums_decided.Holds :=
  G.holds_of (fun l => G.made_ok l) (fun l => G.law_ok (G.sok l))
