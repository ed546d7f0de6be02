import PyProof.Rows.All
import Wide.All
import OpenK.AllK
import Wide.FinOn
import HandS.ForMost
import HandS.Deep
import HandS.Conv
import HandS.Flow
import HandS.IsInst
import HandS.WordsExc
import HandS.CallSlots
import HandS.TupAny
import HandS.RaiseMore
import HandS.Zip
import KE.GoesNew
import HandS.Star
import HandS.Head0
import HandS.Head1
import HandS.Head2
import HandS.HeadEnd
import HandS.HeadHook1
import HandS.HeadHook2
import PySem.Challenge.RW_notslower_k03_places_and_parts
set_option Elab.async false
set_option linter.all false
set_option maxRecDepth 100000
namespace NS
open PySem PySem.Spec PyProof.Rows L2

/-! ## 1. data -/
/-- data by value; a flag tells a container that one place alone holds -/
inductive D where
  | non | bl (b : Bool) | int (i : Int) | str (x : Str)
  | tup (xs : List D)
  | lst (o : Bool) (xs : List D)
  /-- a list that is read alone: the script -/
  | ro (xs : List D)
  | dct (o : Bool) (ks : List Key) (xs : List D)
  | obj (o : Bool) (c : Nat) (ks : List Str) (xs : List D)

def D.own : D → Bool
  | .lst o _ => o
  | .dct o _ _ => o
  | .obj o _ _ _ => o
  | _ => false
mutual
/-- shared from now on -/
def D.frz : D → D
  | .lst _ xs => .lst false xs
  | .dct _ ks xs => .dct false ks xs
  | .obj _ c ks xs => .obj false c ks (D.frzs xs)
  | d => d
def D.frzs : List D → List D
  | [] => []
  | d :: ds => d.frz :: D.frzs ds
end

section
variable (K : PySem.W.Frag) (cA : Nat → Addr)
mutual
/-- the data d stands at v, by objects of F alone -/
def RepF (F : Hp) : D → V → Prop
  | .non, v => v = .non
  | .bl b, v => v = .bl b
  | .int i, v => v = .int i
  | .str x, v => v = .str x
  | .tup xs, v => ∃ a vs, v = .ref a ∧ SqT K F a vs ∧ RepFs F xs vs
  | .lst _ xs, v => ∃ a vs, v = .ref a ∧ F a = some (.lst vs) ∧ RepFs F xs vs
  | .ro xs, v => ∃ a vs, v = .ref a ∧ SqL K F a vs ∧ RepFs F xs vs
  | .dct _ ks xs, v => ∃ a vs, v = .ref a ∧ F a = some (.dK (ks.zip vs)) ∧ ks.length = vs.length ∧ RepFs F xs vs
  | .obj _ c ks xs, v => ∃ a dx vs, v = .ref a ∧ F a = some (.ins (cA c) dx (ks.zip vs)) ∧ ks.length = vs.length ∧ RepFs F xs vs
def RepFs (F : Hp) : List D → List V → Prop
  | [], vs => vs = []
  | d :: ds, vs => ∃ v r, vs = v :: r ∧ RepF F d v ∧ RepFs F ds r
end
mutual
/-- .. where a container of one place stands in H, at the addresses l -/
def Vl (F H : Hp) : D → V → List Addr → Prop
  | .lst true xs, v, l => ∃ a vs, v = .ref a ∧ H a = some (.lst vs) ∧ RepFs K cA F xs vs ∧ l = [a]
  | .dct true ks xs, v, l => ∃ a vs, v = .ref a ∧ H a = some (.dK (ks.zip vs)) ∧ ks.length = vs.length ∧ RepFs K cA F xs vs ∧ l = [a]
  | .obj true c ks xs, v, l => ∃ a dx vs ls, v = .ref a ∧ H a = some (.ins (cA c) dx (ks.zip vs)) ∧ ks.length = vs.length ∧ Vls F H xs vs ls ∧ l = a :: ls
  | d, v, l => RepF K cA F d v ∧ l = []
def Vls (F H : Hp) : List D → List V → List Addr → Prop
  | [], vs, l => vs = [] ∧ l = []
  | d :: ds, vs, l => ∃ v r l1 l2, vs = v :: r ∧ Vl F H d v l1 ∧ Vls F H ds r l2 ∧ l = l1 ++ l2
end
end

abbrev Sl := List (Option D)
/-- an exception: its class, its fields -/
structure Xn where
  c : Nat
  at_ : List (Str × D)
inductive R (α : Type) where
  | ok (a : α) (s : Sl)
  | ex (x : Xn) (s : Sl)
  | no
/-- an expression's value: data, or what one place (a slot) holds -/
inductive EV where
  | val (d : D)
  | al (i : Nat)

section
variable {K : PySem.W.Frag} {cA : Nat → Addr} {F F' P H H' : Hp}

theorem SqT_mono {a : Addr} {vs : List V} (h : SqT K F a vs) (e : Same F F') : SqT K F' a vs := by
  rcases h with (h | ⟨o, h⟩) | h
  · exact .inl (.inl (e _ _ h))
  · exact .inl (.inr ⟨o, e _ _ h⟩)
  · exact .inr h
mutual
theorem RepF.mono (e : Same F F') : ∀ (d : D) (v : V), RepF K cA F d v → RepF K cA F' d v
  | .non, v, h => h
  | .bl _, v, h => h
  | .int _, v, h => h
  | .str _, v, h => h
  | .tup xs, v, h => by
    obtain ⟨a, vs, h1, h2, h3⟩ := h
    exact ⟨a, vs, h1, SqT_mono h2 e, RepFs.mono e xs vs h3⟩
  | .lst _ xs, v, h => by
    obtain ⟨a, vs, h1, h2, h3⟩ := h
    exact ⟨a, vs, h1, e _ _ h2, RepFs.mono e xs vs h3⟩
  | .ro xs, v, h => by
    obtain ⟨a, vs, h1, h2, h3⟩ := h
    exact ⟨a, vs, h1, e.seq h2, RepFs.mono e xs vs h3⟩
  | .dct _ ks xs, v, h => by
    obtain ⟨a, vs, h1, h2, hl, h3⟩ := h
    exact ⟨a, vs, h1, e _ _ h2, hl, RepFs.mono e xs vs h3⟩
  | .obj _ c ks xs, v, h => by
    obtain ⟨a, dx, vs, h1, h2, hl, h3⟩ := h
    exact ⟨a, dx, vs, h1, e _ _ h2, hl, RepFs.mono e xs vs h3⟩
theorem RepFs.mono (e : Same F F') : ∀ (ds : List D) (vs : List V), RepFs K cA F ds vs → RepFs K cA F' ds vs
  | [], vs, h => h
  | d :: ds, vs, h => by
    obtain ⟨v, r, h1, h2, h3⟩ := h
    exact ⟨v, r, h1, RepF.mono e d v h2, RepFs.mono e ds r h3⟩
end
mutual
theorem RepF.frz : ∀ (d : D) (v : V), RepF K cA F d v → RepF K cA F d.frz v
  | .non, v, h => h
  | .bl _, v, h => h
  | .int _, v, h => h
  | .str _, v, h => h
  | .tup xs, v, h => h
  | .lst _ xs, v, h => h
  | .ro xs, v, h => h
  | .dct _ ks xs, v, h => h
  | .obj _ c ks xs, v, h => by
    obtain ⟨a, dx, vs, h1, h2, hl, h3⟩ := h
    exact ⟨a, dx, vs, h1, h2, hl, RepFs.frz xs vs h3⟩
theorem RepFs.frz : ∀ (ds : List D) (vs : List V), RepFs K cA F ds vs → RepFs K cA F (D.frzs ds) vs
  | [], vs, h => h
  | d :: ds, vs, h => by
    obtain ⟨v, r, h1, h2, h3⟩ := h
    exact ⟨v, r, h1, RepF.frz d v h2, RepFs.frz ds r h3⟩
end
theorem RepFs.length : ∀ {ds : List D} {vs : List V}, RepFs K cA F ds vs → ds.length = vs.length
  | [], vs, h => by
    have h : vs = [] := h
    rw [h]
    rfl
  | d :: ds, vs, h => by
    obtain ⟨v, r, rfl, _, h3⟩ := h
    rw [List.length_cons, List.length_cons, RepFs.length h3]
theorem RepFs.get : ∀ {ds : List D} {vs : List V} {i : Nat} {d : D}, RepFs K cA F ds vs → ds[i]? = some d → ∃ v, vs[i]? = some v ∧ RepF K cA F d v
  | [], vs, i, d, h, e => by simp at e
  | d :: ds, vs, 0, d', h, e => by
    obtain ⟨v, r, rfl, h2, h3⟩ := h
    simp at e
    subst e
    exact ⟨v, rfl, h2⟩
  | d :: ds, vs, i + 1, d', h, e => by
    obtain ⟨v, r, rfl, h2, h3⟩ := h
    obtain ⟨u, e1, e2⟩ := RepFs.get (i := i) h3 (by simpa using e)
    exact ⟨u, by simpa using e1, e2⟩
theorem RepFs.append : ∀ {ds es : List D} {vs us : List V}, RepFs K cA F ds vs → RepFs K cA F es us → RepFs K cA F (ds ++ es) (vs ++ us)
  | [], es, vs, us, h, h' => by
    have h : vs = [] := h
    subst h
    exact h'
  | d :: ds, es, vs, us, h, h' => by
    obtain ⟨v, r, rfl, h2, h3⟩ := h
    exact ⟨v, r ++ us, rfl, h2, RepFs.append h3 h'⟩
theorem RepFs.one {d : D} {v : V} (h : RepF K cA F d v) : RepFs K cA F [d] [v] := ⟨v, [], rfl, h, rfl⟩
theorem RepFs.take : ∀ {ds : List D} {vs : List V} (n : Nat), RepFs K cA F ds vs → RepFs K cA F (ds.take n) (vs.take n)
  | [], vs, n, h => by
    have h : vs = [] := h
    subst h
    rw [List.take_nil, List.take_nil]
    exact rfl
  | d :: ds, vs, 0, h => rfl
  | d :: ds, vs, n + 1, h => by
    obtain ⟨v, r, rfl, h2, h3⟩ := h
    exact ⟨v, r.take n, rfl, h2, RepFs.take n h3⟩
theorem RepFs.drop : ∀ {ds : List D} {vs : List V} (n : Nat), RepFs K cA F ds vs → RepFs K cA F (ds.drop n) (vs.drop n)
  | [], vs, n, h => by
    have h : vs = [] := h
    subst h
    rw [List.drop_nil, List.drop_nil]
    exact rfl
  | d :: ds, vs, 0, h => h
  | d :: ds, vs, n + 1, h => by
    obtain ⟨v, r, rfl, h2, h3⟩ := h
    exact RepFs.drop n h3
theorem RepFs.set : ∀ {ds : List D} {vs : List V} {d : D} {v : V} (n : Nat), RepFs K cA F ds vs → RepF K cA F d v → RepFs K cA F (ds.set n d) (vs.set n v)
  | [], vs, d, v, n, h, h' => by
    have h : vs = [] := h
    subst h
    exact rfl
  | d :: ds, vs, d', v', 0, h, h' => by
    obtain ⟨v, r, rfl, h2, h3⟩ := h
    exact ⟨v', r, rfl, h', h3⟩
  | d :: ds, vs, d', v', n + 1, h, h' => by
    obtain ⟨v, r, rfl, h2, h3⟩ := h
    exact ⟨v, r.set n v', rfl, h2, RepFs.set n h3 h'⟩
mutual
theorem Vl.keep (e : Same F F') : ∀ (d : D) (v : V) (l : List Addr), Vl K cA F H d v l → (∀ a ∈ l, H' a = H a) → Vl K cA F' H' d v l
  | .lst true xs, v, l, h, q => by
    obtain ⟨a, vs, h1, h2, h3, rfl⟩ := h
    exact ⟨a, vs, h1, by rw [q a (by simp)]; exact h2, h3.mono e, rfl⟩
  | .dct true ks xs, v, l, h, q => by
    obtain ⟨a, vs, h1, h2, hl, h3, rfl⟩ := h
    exact ⟨a, vs, h1, by rw [q a (by simp)]; exact h2, hl, h3.mono e, rfl⟩
  | .obj true c ks xs, v, l, h, q => by
    obtain ⟨a, dx, vs, ls, h1, h2, hl, h3, rfl⟩ := h
    exact ⟨a, dx, vs, ls, h1, by rw [q a (by simp)]; exact h2, hl, Vls.keep e xs vs ls h3 (fun b hb => q b (List.mem_cons_of_mem _ hb)), rfl⟩
  | .non, v, l, h, q => ⟨h.1, h.2⟩
  | .bl _, v, l, h, q => ⟨h.1, h.2⟩
  | .int _, v, l, h, q => ⟨h.1, h.2⟩
  | .str _, v, l, h, q => ⟨h.1, h.2⟩
  | .tup xs, v, l, h, q => ⟨RepF.mono e _ _ h.1, h.2⟩
  | .ro xs, v, l, h, q => ⟨RepF.mono e _ _ h.1, h.2⟩
  | .lst false xs, v, l, h, q => ⟨RepF.mono e _ _ h.1, h.2⟩
  | .dct false ks xs, v, l, h, q => ⟨RepF.mono e _ _ h.1, h.2⟩
  | .obj false c ks xs, v, l, h, q => ⟨RepF.mono e _ _ h.1, h.2⟩
theorem Vls.keep (e : Same F F') : ∀ (ds : List D) (vs : List V) (l : List Addr), Vls K cA F H ds vs l → (∀ a ∈ l, H' a = H a) → Vls K cA F' H' ds vs l
  | [], vs, l, h, q => h
  | d :: ds, vs, l, h, q => by
    obtain ⟨v, r, l1, l2, h1, h2, h3, rfl⟩ := h
    exact ⟨v, r, l1, l2, h1, Vl.keep e d v l1 h2 (fun b hb => q b (List.mem_append_left _ hb)), Vls.keep e ds r l2 h3 (fun b hb => q b (List.mem_append_right _ hb)), rfl⟩
end
theorem Vl.of_frozen : ∀ {d : D} {v : V} {l : List Addr}, d.own = false → Vl K cA F H d v l → RepF K cA F d v ∧ l = []
  | .non, v, l, _, h => h
  | .bl _, v, l, _, h => h
  | .int _, v, l, _, h => h
  | .str _, v, l, _, h => h
  | .tup xs, v, l, _, h => h
  | .ro xs, v, l, _, h => h
  | .lst false xs, v, l, _, h => h
  | .dct false ks xs, v, l, _, h => h
  | .obj false c ks xs, v, l, _, h => h
  | .lst true _, _, _, e, _ => by cases e
  | .dct true _ _, _, _, e, _ => by cases e
  | .obj true _ _ _, _, _, e, _ => by cases e
theorem Vl.frozen : ∀ {d : D} {v : V}, d.own = false → RepF K cA F d v → Vl K cA F H d v []
  | .non, v, _, h => ⟨h, rfl⟩
  | .bl _, v, _, h => ⟨h, rfl⟩
  | .int _, v, _, h => ⟨h, rfl⟩
  | .str _, v, _, h => ⟨h, rfl⟩
  | .tup xs, v, _, h => ⟨h, rfl⟩
  | .ro xs, v, _, h => ⟨h, rfl⟩
  | .lst false xs, v, _, h => ⟨h, rfl⟩
  | .dct false ks xs, v, _, h => ⟨h, rfl⟩
  | .obj false c ks xs, v, _, h => ⟨h, rfl⟩
  | .lst true _, _, e, _ => by cases e
  | .dct true _ _, _, e, _ => by cases e
  | .obj true _ _ _, _, e, _ => by cases e
theorem D.frz_own : ∀ d : D, d.frz.own = false
  | .non => rfl
  | .bl _ => rfl
  | .int _ => rfl
  | .str _ => rfl
  | .tup _ => rfl
  | .ro _ => rfl
  | .lst _ _ => rfl
  | .dct _ _ _ => rfl
  | .obj _ _ _ _ => rfl
mutual
/-- a container of one place becomes shared: its objects go into F' -/
theorem Vl.freeze (e : Same F F') : ∀ (d : D) (v : V) (l : List Addr), Vl K cA F H d v l → (∀ a ∈ l, ∀ o, H a = some o → F' a = some o) → RepF K cA F' d.frz v
  | .lst true xs, v, l, h, q => by
    obtain ⟨a, vs, h1, h2, h3, rfl⟩ := h
    exact ⟨a, vs, h1, q a (by simp) _ h2, h3.mono e⟩
  | .dct true ks xs, v, l, h, q => by
    obtain ⟨a, vs, h1, h2, hl, h3, rfl⟩ := h
    exact ⟨a, vs, h1, q a (by simp) _ h2, hl, h3.mono e⟩
  | .obj true c ks xs, v, l, h, q => by
    obtain ⟨a, dx, vs, ls, h1, h2, hl, h3, rfl⟩ := h
    exact ⟨a, dx, vs, h1, q a (by simp) _ h2, hl, Vls.freeze e xs vs ls h3 fun b hb => q b (List.mem_cons_of_mem _ hb)⟩
  | .non, v, l, h, q => h.1
  | .bl _, v, l, h, q => h.1
  | .int _, v, l, h, q => h.1
  | .str _, v, l, h, q => h.1
  | .tup xs, v, l, h, q => RepF.mono e _ _ h.1
  | .ro xs, v, l, h, q => RepF.mono e _ _ h.1
  | .lst false xs, v, l, h, q => RepF.mono e _ _ h.1
  | .dct false ks xs, v, l, h, q => RepF.mono e _ _ h.1
  | .obj false c ks xs, v, l, h, q => RepF.frz _ _ (RepF.mono e _ _ h.1)
theorem Vls.freeze (e : Same F F') : ∀ (ds : List D) (vs : List V) (l : List Addr), Vls K cA F H ds vs l → (∀ a ∈ l, ∀ o, H a = some o → F' a = some o) → RepFs K cA F' (D.frzs ds) vs
  | [], vs, l, h, q => h.1
  | d :: ds, vs, l, h, q => by
    obtain ⟨v, r, l1, l2, h1, h2, h3, rfl⟩ := h
    exact ⟨v, r, h1, Vl.freeze e d v l1 h2 (fun b hb => q b (List.mem_append_left _ hb)), Vls.freeze e ds r l2 h3 (fun b hb => q b (List.mem_append_right _ hb))⟩
end
mutual
theorem Vl.there : ∀ (d : D) (v : V) (l : List Addr), Vl K cA F H d v l → ∀ a ∈ l, ∃ o, H a = some o
  | .lst true xs, v, l, h => by
    obtain ⟨a, vs, h1, h2, h3, rfl⟩ := h
    intro b hb
    rw [List.mem_singleton.mp hb]
    exact ⟨_, h2⟩
  | .dct true ks xs, v, l, h => by
    obtain ⟨a, vs, h1, h2, hl, h3, rfl⟩ := h
    intro b hb
    rw [List.mem_singleton.mp hb]
    exact ⟨_, h2⟩
  | .obj true c ks xs, v, l, h => by
    obtain ⟨a, dx, vs, ls, h1, h2, hl, h3, rfl⟩ := h
    intro b hb
    rcases List.mem_cons.mp hb with rfl | hb
    · exact ⟨_, h2⟩
    · exact Vls.there xs vs ls h3 b hb
  | .non, v, l, h => by rw [h.2]; intro _ z; cases z
  | .bl _, v, l, h => by rw [h.2]; intro _ z; cases z
  | .int _, v, l, h => by rw [h.2]; intro _ z; cases z
  | .str _, v, l, h => by rw [h.2]; intro _ z; cases z
  | .tup xs, v, l, h => by rw [h.2]; intro _ z; cases z
  | .ro xs, v, l, h => by rw [h.2]; intro _ z; cases z
  | .lst false xs, v, l, h => by rw [h.2]; intro _ z; cases z
  | .dct false ks xs, v, l, h => by rw [h.2]; intro _ z; cases z
  | .obj false c ks xs, v, l, h => by rw [h.2]; intro _ z; cases z
theorem Vls.there : ∀ (ds : List D) (vs : List V) (l : List Addr), Vls K cA F H ds vs l → ∀ a ∈ l, ∃ o, H a = some o
  | [], vs, l, h => by rw [h.2]; intro _ z; cases z
  | d :: ds, vs, l, h => by
    obtain ⟨v, r, l1, l2, h1, h2, h3, rfl⟩ := h
    intro b hb
    rcases List.mem_append.mp hb with hb | hb
    · exact Vl.there d v l1 h2 b hb
    · exact Vls.there ds r l2 h3 b hb
end
end
end NS
namespace NS
open PySem PySem.Spec PyProof.Rows L2

/-- a footprint with one more, one taken away -/
def fset (fp : Nat → List Addr) (i : Nat) (l : List Addr) : Nat → List Addr := fun j => if j = i then l else fp j
theorem fset_same {fp : Nat → List Addr} {i : Nat} {l : List Addr} : fset fp i l i = l := if_pos rfl
theorem fset_ne {fp : Nat → List Addr} {i j : Nat} {l : List Addr} (h : j ≠ i) : fset fp i l j = fp j := if_neg h
/-- what stands in H at l goes to F -/
def fzn (F H : Hp) (l : List Addr) : Hp := fun b => if b ∈ l then H b else F b
theorem fzn_same {F H : Hp} {l : List Addr} (h : ∀ a ∈ l, F a = none) : Same F (fzn F H l) := fun b o e => by
  unfold fzn
  by_cases hb : b ∈ l
  · rw [h b hb] at e; cases e
  · rw [if_neg hb]; exact e
theorem fzn_in {F H : Hp} {l : List Addr} {a : Addr} (h : a ∈ l) : fzn F H l a = H a := if_pos h
theorem fzn_out {F H : Hp} {l : List Addr} {a : Addr} (h : a ∉ l) : fzn F H l a = F a := if_neg h

section
variable (K : PySem.W.Frag) (cA : Nat → Addr)
/-- THE RELATION: slots by value (s) against slots (σ) and heap (H). F: what is shared and never changes; P: what must stay and may not be leant on; pn: slots that keep their value; fp: the objects of the slots' own containers -/
structure Rl (F P : Hp) (pn : Nat → Option V) (fp : Nat → List Addr) (s : Sl) (σ : L2.St) (H : Hp) : Prop where
  len : s.length = σ.length
  fz : Same F H
  pr : Same P H
  sl : ∀ i d, s[i]? = some (some d) → ∃ v, σ[i]? = some (some v) ∧ Vl K cA F H d v (fp i)
  nl : ∀ i, (∀ d, s[i]? ≠ some (some d)) → fp i = []
  nd : ∀ i, (fp i).Nodup
  dj : ∀ i j a, a ∈ fp i → a ∈ fp j → i = j
  fr : ∀ i a, a ∈ fp i → F a = none ∧ P a = none
  pn : ∀ i v, pn i = some v → σ[i]? = some (some v)
  fd : ∀ a o, P a = some o → F a = none
end
section
variable {K : PySem.W.Frag} {cA : Nat → Addr} {F F' P P' H H' : Hp} {pn : Nat → Option V} {fp fp' : Nat → List Addr} {s s' : Sl} {σ σ' : L2.St}

theorem Rl.there (r : Rl K cA F P pn fp s σ H) {i : Nat} {a : Addr} (h : a ∈ fp i) : ∃ o, H a = some o := by
  cases e : s[i]? with
  | none => rw [r.nl i (fun d z => by rw [e] at z; cases z)] at h; cases h
  | some x =>
    cases x with
    | none => rw [r.nl i (fun d z => by rw [e] at z; cases z)] at h; cases h
    | some d =>
      obtain ⟨v, _, q⟩ := r.sl i d e
      exact Vl.there d v _ q a h
theorem Rl.fsame (r : Rl K cA F P pn fp s σ H) (i : Nat) : Same F (fzn F H (fp i)) := fzn_same fun a h => (r.fr i a h).1
/-- a slot's container is shared from now on -/
theorem Rl.freeze (r : Rl K cA F P pn fp s σ H) {i : Nat} {d : D} (e : s[i]? = some (some d)) : Rl K cA (fzn F H (fp i)) P pn (fset fp i []) (s.set i (some d.frz)) σ H := by
  have hi : i < s.length := (List.getElem?_eq_some_iff.mp e).1
  refine ⟨by rw [List.length_set]; exact r.len, fun a o h => ?_, r.pr, fun j d' h => ?_, fun j h => ?_, fun j => ?_, fun j k a h1 h2 => ?_, fun j a h => ?_, r.pn, fun a o h => ?_⟩
  · unfold fzn at h
    split at h
    · exact h
    · exact r.fz a o h
  · by_cases hj : j = i
    · subst hj
      rw [List.getElem?_set_self hi] at h
      cases h
      obtain ⟨v, e1, q⟩ := r.sl j d e
      refine ⟨v, e1, ?_⟩
      rw [fset_same]
      exact Vl.frozen (D.frz_own d) (Vl.freeze (r.fsame j) d v _ q fun a ha o h => by rw [fzn_in ha]; exact h)
    · rw [List.getElem?_set_ne (Ne.symm hj)] at h
      obtain ⟨v, e1, q⟩ := r.sl j d' h
      refine ⟨v, e1, ?_⟩
      rw [fset_ne hj]
      exact Vl.keep (r.fsame i) d' v _ q fun _ _ => rfl
  · by_cases hj : j = i
    · subst hj; exact fset_same
    · rw [fset_ne hj]
      exact r.nl j fun d' z => h d' (by rw [List.getElem?_set_ne (Ne.symm hj)]; exact z)
  · by_cases hj : j = i
    · subst hj; rw [fset_same]; exact List.nodup_nil
    · rw [fset_ne hj]; exact r.nd j
  · by_cases hj : j = i
    · subst hj; rw [fset_same] at h1; cases h1
    · by_cases hk : k = i
      · subst hk; rw [fset_same] at h2; cases h2
      · rw [fset_ne hj] at h1; rw [fset_ne hk] at h2; exact r.dj j k a h1 h2
  · by_cases hj : j = i
    · subst hj; rw [fset_same] at h; cases h
    · rw [fset_ne hj] at h
      obtain ⟨h1, h2⟩ := r.fr j a h
      refine ⟨?_, h2⟩
      rw [fzn_out fun z => hj (r.dj j i a h z)]
      exact h1
  · rw [fzn_out fun z => by rw [(r.fr i a z).2] at h; cases h]
    exact r.fd a o h
/-- a slot is forgotten -/
theorem Rl.drop (r : Rl K cA F P pn fp s σ H) (i : Nat) : Rl K cA F P pn (fset fp i []) (s.set i none) σ H := by
  refine ⟨by rw [List.length_set]; exact r.len, r.fz, r.pr, fun j d' h => ?_, fun j h => ?_, fun j => ?_, fun j k a h1 h2 => ?_, fun j a h => ?_, r.pn, r.fd⟩
  · by_cases hj : j = i
    · subst hj
      by_cases hi : j < s.length
      · rw [List.getElem?_set_self hi] at h; cases h
      · rw [List.getElem?_eq_none (by rw [List.length_set]; omega)] at h; cases h
    · rw [List.getElem?_set_ne (Ne.symm hj)] at h
      rw [fset_ne hj]
      exact r.sl j d' h
  · by_cases hj : j = i
    · subst hj; exact fset_same
    · rw [fset_ne hj]
      exact r.nl j fun d' z => h d' (by rw [List.getElem?_set_ne (Ne.symm hj)]; exact z)
  · by_cases hj : j = i
    · subst hj; rw [fset_same]; exact List.nodup_nil
    · rw [fset_ne hj]; exact r.nd j
  · by_cases hj : j = i
    · subst hj; rw [fset_same] at h1; cases h1
    · by_cases hk : k = i
      · subst hk; rw [fset_same] at h2; cases h2
      · rw [fset_ne hj] at h1; rw [fset_ne hk] at h2; exact r.dj j k a h1 h2
  · by_cases hj : j = i
    · subst hj; rw [fset_same] at h; cases h
    · rw [fset_ne hj] at h
      exact r.fr j a h
/-- a slot takes a value -/
theorem Rl.put (r : Rl K cA F P pn fp s σ H) {i : Nat} {d : D} {v : V} {l : List Addr} (hi : i < s.length) (q : Vl K cA F H d v l) (nd : l.Nodup) (dj : ∀ j a, a ∈ l → a ∈ fp j → j = i) (fr : ∀ a ∈ l, F a = none ∧ P a = none) (hp : ∀ u, pn i = some u → u = v) :
    Rl K cA F P pn (fset fp i l) (s.set i (some d)) (σ.set i (some v)) H := by
  have hs : i < σ.length := by rw [← r.len]; exact hi
  refine ⟨by rw [List.length_set, List.length_set]; exact r.len, r.fz, r.pr, fun j d' h => ?_, fun j h => ?_, fun j => ?_, fun j k a h1 h2 => ?_, fun j a h => ?_, fun j u h => ?_, r.fd⟩
  · by_cases hj : j = i
    · subst hj
      rw [List.getElem?_set_self hi] at h
      cases h
      exact ⟨v, List.getElem?_set_self hs, by rw [fset_same]; exact q⟩
    · rw [List.getElem?_set_ne (Ne.symm hj)] at h
      rw [fset_ne hj, List.getElem?_set_ne (Ne.symm hj)]
      exact r.sl j d' h
  · by_cases hj : j = i
    · subst hj
      exact absurd (List.getElem?_set_self hi) (h d)
    · rw [fset_ne hj]
      exact r.nl j fun d' z => h d' (by rw [List.getElem?_set_ne (Ne.symm hj)]; exact z)
  · by_cases hj : j = i
    · subst hj; rw [fset_same]; exact nd
    · rw [fset_ne hj]; exact r.nd j
  · by_cases hj : j = i
    · subst hj
      rw [fset_same] at h1
      by_cases hk : k = j
      · exact hk.symm
      · rw [fset_ne hk] at h2
        exact (dj k a h1 h2).symm
    · rw [fset_ne hj] at h1
      by_cases hk : k = i
      · subst hk
        rw [fset_same] at h2
        exact dj j a h2 h1
      · rw [fset_ne hk] at h2; exact r.dj j k a h1 h2
  · by_cases hj : j = i
    · subst hj; rw [fset_same] at h; exact fr a h
    · rw [fset_ne hj] at h
      exact r.fr j a h
  · by_cases hj : j = i
    · subst hj
      rw [List.getElem?_set_self hs, hp u h]
    · rw [List.getElem?_set_ne (Ne.symm hj)]
      exact r.pn j u h
/-- more is shared -/
theorem Rl.more (r : Rl K cA F P pn fp s σ H) (e : Same F F') (h : Same F' H) (fr : ∀ i a, a ∈ fp i → F' a = none) (fd : ∀ a o, P a = some o → F' a = none) : Rl K cA F' P pn fp s σ H :=
  ⟨r.len, h, r.pr, fun i d q => let ⟨v, h1, h2⟩ := r.sl i d q; ⟨v, h1, Vl.keep e d v _ h2 fun _ _ => rfl⟩, r.nl, r.nd, r.dj, fun i a q => ⟨fr i a q, (r.fr i a q).2⟩, r.pn, fd⟩
/-- the heap has more, or other things where nobody looks -/
theorem Rl.heap (r : Rl K cA F P pn fp s σ H) (h : Same F H') (hp : Same P H') (k : ∀ i a, a ∈ fp i → H' a = H a) : Rl K cA F P pn fp s σ H' :=
  ⟨r.len, h, hp, fun i d q => let ⟨v, h1, h2⟩ := r.sl i d q; ⟨v, h1, Vl.keep (fun _ _ z => z) d v _ h2 (k i)⟩, r.nl, r.nd, r.dj, r.fr, r.pn, r.fd⟩
theorem same_upd {H : Hp} {p : Addr} (h : H p = none) (o : HO) : Same H (upd H p o) := fun b u q => by rw [upd_ne (ne_of_none q h)]; exact q
theorem Same.none {F H : Hp} (e : Same F H) {p : Addr} (h : H p = Option.none) : F p = Option.none := e.free h
theorem Rl.new (r : Rl K cA F P pn fp s σ H) {p : Addr} (h : H p = none) (o : HO) : Rl K cA F P pn fp s σ (upd H p o) :=
  r.heap (r.fz.trans (same_upd h o)) (r.pr.trans (same_upd h o)) fun i a q => by
    obtain ⟨u, e⟩ := r.there q
    exact upd_ne (ne_of_none e h)
/-- a new object, shared at once -/
theorem Rl.newF (r : Rl K cA F P pn fp s σ H) {p : Addr} (h : H p = none) (o : HO) : Rl K cA (upd F p o) P pn fp s σ (upd H p o) :=
  (r.new h o).more (same_upd (Same.free r.fz h) o) (fun b u q => by
    by_cases hb : b = p
    · subst hb; rw [upd_same] at q ⊢; exact q
    · rw [upd_ne hb] at q ⊢; exact r.fz b u q) (fun i a q => by
    obtain ⟨u, e⟩ := r.there q
    rw [upd_ne (ne_of_none e h)]
    exact (r.fr i a q).1) fun a u q => by
    rw [upd_ne (ne_of_none (r.pr a u q) h)]
    exact r.fd a u q
/-- a slot's own container is written -/
theorem Rl.write (r : Rl K cA F P pn fp s σ H) {i : Nat} {d d' : D} {v : V} {a : Addr} {o : HO} (e : s[i]? = some (some d)) (hv : σ[i]? = some (some v)) (ha : a ∈ fp i) (q : Vl K cA F (upd H a o) d' v (fp i)) :
    Rl K cA F P pn fp (s.set i (some d')) σ (upd H a o) := by
  have hi : i < s.length := (List.getElem?_eq_some_iff.mp e).1
  have up : ∀ {G : Hp}, Same G H → G a = none → Same G (upd H a o) := fun {G} g z b u hb => by
    rw [upd_ne (ne_of_none hb z)]
    exact g b u hb
  refine ⟨by rw [List.length_set]; exact r.len, up r.fz (r.fr i a ha).1, up r.pr (r.fr i a ha).2, fun j d1 h => ?_, fun j h => ?_, r.nd, r.dj, r.fr, r.pn, r.fd⟩
  · by_cases hj : j = i
    · subst hj
      rw [List.getElem?_set_self hi] at h
      cases h
      exact ⟨v, hv, q⟩
    · rw [List.getElem?_set_ne (Ne.symm hj)] at h
      obtain ⟨u, h1, h2⟩ := r.sl j d1 h
      exact ⟨u, h1, Vl.keep (fun _ _ z => z) d1 u _ h2 fun b hb => upd_ne fun z => hj (r.dj j i b hb (by rw [z]; exact ha))⟩
  · by_cases hj : j = i
    · subst hj
      exact absurd (List.getElem?_set_self hi) (h d')
    · exact r.nl j fun d1 z => h d1 (by rw [List.getElem?_set_ne (Ne.symm hj)]; exact z)
/-- a slot is forgotten, by value and as a slot -/
theorem Rl.dropB (r : Rl K cA F P pn fp s σ H) {i : Nat} (hp : pn i = none) : Rl K cA F P pn (fset fp i []) (s.set i none) (σ.set i none) H := by
  have d := r.drop i
  refine ⟨by rw [List.length_set, List.length_set]; exact r.len, d.fz, d.pr, fun j d' h => ?_, d.nl, d.nd, d.dj, d.fr, fun j v h => ?_, d.fd⟩
  · have hj : j ≠ i := by
      intro z
      subst z
      by_cases hi : j < s.length
      · rw [List.getElem?_set_self hi] at h; cases h
      · rw [List.getElem?_eq_none (by rw [List.length_set]; omega)] at h; cases h
    rw [List.getElem?_set_ne (Ne.symm hj)]
    exact d.sl j d' h
  · have hj : j ≠ i := by
      intro z
      subst z
      rw [hp] at h; cases h
    rw [List.getElem?_set_ne (Ne.symm hj)]
    exact r.pn j v h
/-- more must stay: an object that nobody leans on -/
theorem Rl.guard (r : Rl K cA F P pn fp s σ H) {a : Addr} {o : HO} (ha : H a = some o) (hF : F a = none) (hp : ∀ i, a ∉ fp i) : Rl K cA F (upd P a o) pn fp s σ H := by
  refine ⟨r.len, r.fz, fun b u q => ?_, r.sl, r.nl, r.nd, r.dj, fun i b h => ⟨(r.fr i b h).1, ?_⟩, r.pn, fun b u q => ?_⟩
  · by_cases hb : b = a
    · subst hb; rw [upd_same] at q; cases q; exact ha
    · rw [upd_ne hb] at q; exact r.pr b u q
  · rw [upd_ne fun z => hp i (by rw [← z]; exact h)]
    exact (r.fr i b h).2
  · by_cases hb : b = a
    · subst hb; exact hF
    · rw [upd_ne hb] at q; exact r.fd b u q
/-- less must stay -/
theorem Rl.unguard (r : Rl K cA F P' pn fp s σ H) (e : Same P P') : Rl K cA F P pn fp s σ H :=
  ⟨r.len, r.fz, e.trans r.pr, r.sl, r.nl, r.nd, r.dj, fun i b h => ⟨(r.fr i b h).1, Same.free e (r.fr i b h).2⟩, r.pn, fun b u q => r.fd b u (e b u q)⟩
/-- an object that nobody leans on is changed -/
theorem Rl.other (r : Rl K cA F P pn fp s σ H) {a : Addr} {o : HO} (hF : F a = none) (hP : P a = none) (hp : ∀ i, a ∉ fp i) : Rl K cA F P pn fp s σ (upd H a o) :=
  r.heap (fun b u q => by rw [upd_ne (ne_of_none q hF)]; exact r.fz b u q) (fun b u q => by rw [upd_ne (ne_of_none q hP)]; exact r.pr b u q) fun i b h => upd_ne fun z => hp i (by rw [← z]; exact h)
end
end NS
namespace NS
open PySem PySem.Spec PyProof.Rows L2

/-! ## 2. what evaluation comes to -/
def R.bind {α β : Type} (r : R α) (k : α → Sl → R β) : R β :=
  match r with
  | .ok a s => k a s
  | .ex x s => .ex x s
  | .no => .no
/-- as a value that may be kept -/
def evV (ev : EV) (s : Sl) : Option (D × Sl) :=
  match ev with
  | .val d => some (d.frz, s)
  | .al i => match s[i]? with
    | some (some d) => some (d.frz, s.set i (some d.frz))
    | _ => none
def evVs : List EV → Sl → Option (List D × Sl)
  | [], s => some ([], s)
  | e :: es, s => (evV e s).bind fun p => (evVs es p.2).bind fun q => some (p.1 :: q.1, q.2)
/-- as a value that is read at once -/
def evR (ev : EV) (s : Sl) : Option D :=
  match ev with
  | .val d => some d.frz
  | .al i => match s[i]? with
    | some (some d) => some d.frz
    | _ => none
def EV.pend : EV → EV
  | .val d => .val d.frz
  | .al i => .al i

/-- what is fixed through a frame: the wish of an exception, what must stay, the slots that keep their value -/
structure Gx where
  w : WX
  P : Hp
  pn : Nat → Option V
section
variable (K : PySem.W.Frag) (cA : Nat → Addr)
def XnOk (F H : Hp) (x : Xn) (cls : Value) (dx : Option Addr) : Prop :=
  cls = .ref (cA x.c) ∧ ∃ d vs, dx = some d ∧ H d = some (.xd ((x.at_.map Prod.fst).zip vs)) ∧ RepFs K cA F (x.at_.map Prod.snd) vs
/-- the relation of an expression's value, just made -/
def Ev (F P H : Hp) (fp : Nat → List Addr) (s : Sl) (σ : L2.St) (v : V) : EV → Prop
  | .val d => ∃ l, Vl K cA F H d v l ∧ l.Nodup ∧ (∀ j a, a ∈ l → a ∈ fp j → False) ∧ ∀ a ∈ l, F a = none ∧ P a = none
  | .al i => (∃ d, s[i]? = some (some d)) ∧ σ[i]? = some (some v)
/-- .. of one that waits -/
def Ep (F : Hp) (σ : L2.St) (v : V) : EV → Prop
  | .val d => RepF K cA F d v ∧ d.own = false
  | .al i => σ[i]? = some (some v)
def Eps (F : Hp) (σ : L2.St) : List V → List EV → Prop
  | [], es => es = []
  | v :: vs, es => ∃ e r, es = e :: r ∧ Ep K cA F σ v e ∧ Eps F σ vs r
/-- an end: the value's wish, or the frame's wish of an exception -/
def Po {α : Type} (W : Gx) (F : Hp) (σ : L2.St) (r : R α) (C : α → Sl → Prop) : Prop :=
  match r with
  | .ok a s => C a s
  | .ex x s => ∀ cls dx H' F' fp', Same F F' → Rl K cA F' W.P W.pn fp' s σ H' → XnOk K cA F' H' x cls dx → W.w cls dx σ H'
  | .no => False
abbrev KE (W : Gx) (F : Hp) (σ : L2.St) (Q : VK) : EV → Sl → Prop := fun ev s => ∀ v H' F' fp', Same F F' → Rl K cA F' W.P W.pn fp' s σ H' → Ev K cA F' W.P H' fp' s σ v ev → Q v H'
abbrev KT (W : Gx) (F : Hp) (σ : L2.St) (Q : Bool → Hp → Prop) : Bool → Sl → Prop := fun b s => ∀ H' F' fp', Same F F' → Rl K cA F' W.P W.pn fp' s σ H' → Q b H'
abbrev KA (W : Gx) (F : Hp) (σ : L2.St) (Q : List V → Hp → Prop) : List EV → Sl → Prop := fun es s => ∀ vs H' F' fp', Same F F' → Rl K cA F' W.P W.pn fp' s σ H' → Eps K cA F' σ vs es → Q vs H'
abbrev KV (W : Gx) (F : Hp) (σ : L2.St) (Q : List V → Hp → Prop) : List D → Sl → Prop := fun ds s => ∀ vs H' F' fp', Same F F' → Rl K cA F' W.P W.pn fp' s σ H' → RepFs K cA F' ds vs → Q vs H'
def tE (W : Gx) (f : Sl → R EV) : TE := fun σ H Q => ∃ F fp s, Rl K cA F W.P W.pn fp s σ H ∧ Po K cA W F σ (f s) (KE K cA W F σ Q)
def tT (W : Gx) (f : Sl → R Bool) : TT := fun σ H Q => ∃ F fp s, Rl K cA F W.P W.pn fp s σ H ∧ Po K cA W F σ (f s) (KT K cA W F σ Q)
def tA (W : Gx) (f : Sl → R (List EV)) : TA := fun σ H Q => ∃ F fp s, Rl K cA F W.P W.pn fp s σ H ∧ Po K cA W F σ (f s) (KA K cA W F σ Q)
def tV (W : Gx) (f : Sl → R (List D)) : TA := fun σ H Q => ∃ F fp s, Rl K cA F W.P W.pn fp s σ H ∧ Po K cA W F σ (f s) (KV K cA W F σ Q)
end

section
variable {K : PySem.W.Frag} {cA : Nat → Addr} {W : Gx} {F F' P H H' : Hp} {pn : Nat → Option V} {fp fp' : Nat → List Addr} {s s' : Sl} {σ : L2.St}

theorem Ev.fro {v : V} {d : D} (ho : d.own = false) (h : RepF K cA F d v) : Ev K cA F W.P H fp s σ v (.val d) :=
  ⟨[], Vl.frozen ho h, List.nodup_nil, (fun j a z => nomatch z), (fun a z => nomatch z)⟩
theorem Ep.mono (e : Same F F') {v : V} {ev : EV} (h : Ep K cA F σ v ev) : Ep K cA F' σ v ev := by
  cases ev with
  | val d => exact ⟨RepF.mono e _ _ h.1, h.2⟩
  | al i => exact h
theorem Eps.mono (e : Same F F') : ∀ {vs : List V} {es : List EV}, Eps K cA F σ vs es → Eps K cA F' σ vs es
  | [], es, h => h
  | v :: vs, es, h => by
    obtain ⟨ev, r, h1, h2, h3⟩ := h
    exact ⟨ev, r, h1, h2.mono e, Eps.mono e h3⟩
/-- a value just made waits: its own objects are shared now -/
theorem Ev.pend {v : V} {ev : EV} (r : Rl K cA F W.P W.pn fp s σ H) (h : Ev K cA F W.P H fp s σ v ev) : ∃ F', Same F F' ∧ Rl K cA F' W.P W.pn fp s σ H ∧ Ep K cA F' σ v ev.pend := by
  cases ev with
  | val d =>
    obtain ⟨l, q, nd, dj, fr⟩ := h
    have e := fzn_same (F := F) (H := H) (l := l) fun a ha => (fr a ha).1
    refine ⟨fzn F H l, e, r.more e (fun a o z => ?_) (fun i a ha => ?_) (fun a o hP => ?_), Vl.freeze e d v l q (fun a ha o z => by rw [fzn_in ha]; exact z), D.frz_own d⟩
    · unfold fzn at z
      split at z
      · exact z
      · exact r.fz a o z
    · rw [fzn_out fun z => dj i a z ha]
      exact (r.fr i a ha).1
    · rw [fzn_out fun z => by rw [(fr a z).2] at hP; cases hP]
      exact r.fd a o hP
  | al i => exact ⟨F, fun _ _ z => z, r, h.2⟩
theorem RepF.own_frz {d : D} {v : V} (h : RepF K cA F d v) : RepF K cA F d.frz v := RepF.frz d v h
/-- kept -/
theorem Ep.evV {v : V} {ev : EV} {d : D} (r : Rl K cA F W.P W.pn fp s σ H) (h : Ep K cA F σ v ev) (e : evV ev s = some (d, s')) : ∃ F' fp', Same F F' ∧ Rl K cA F' W.P W.pn fp' s' σ H ∧ RepF K cA F' d v ∧ d.own = false := by
  cases ev with
  | val d' =>
    simp only [NS.evV, Option.some.injEq, Prod.mk.injEq] at e
    obtain ⟨rfl, rfl⟩ := e
    exact ⟨F, fp, fun _ _ z => z, r, RepF.frz _ _ h.1, D.frz_own d'⟩
  | al i =>
    simp only [NS.evV] at e
    split at e
    · rename_i d' hd
      simp only [Option.some.injEq, Prod.mk.injEq] at e
      obtain ⟨rfl, rfl⟩ := e
      obtain ⟨u, hu, q⟩ := r.sl i d' hd
      have hv : σ[i]? = some (some v) := h
      rw [hv] at hu
      cases hu
      exact ⟨_, _, r.fsame i, r.freeze hd, Vl.freeze (r.fsame i) d' v _ q (fun a ha o z => by rw [fzn_in ha]; exact z), D.frz_own d'⟩
    · cases e
theorem Eps.evVs : ∀ {vs : List V} {es : List EV} {ds : List D} {F : Hp} {fp : Nat → List Addr} {s s' : Sl}, Rl K cA F W.P W.pn fp s σ H → Eps K cA F σ vs es → evVs es s = some (ds, s') → ∃ F' fp', Same F F' ∧ Rl K cA F' W.P W.pn fp' s' σ H ∧ RepFs K cA F' ds vs
  | [], es, ds, F, fp, s, s', r, h, e => by
    have h : es = [] := h
    subst h
    simp only [NS.evVs, Option.some.injEq, Prod.mk.injEq] at e
    obtain ⟨rfl, rfl⟩ := e
    exact ⟨F, fp, fun _ _ z => z, r, rfl⟩
  | v :: vs, es, ds, F, fp, s, s', r, h, e => by
    obtain ⟨ev, es', rfl, h1, h2⟩ := h
    simp only [NS.evVs] at e
    obtain ⟨⟨d, s1⟩, e1, e⟩ := Option.bind_eq_some_iff.mp e
    obtain ⟨⟨ds1, s2⟩, e2, e⟩ := Option.bind_eq_some_iff.mp e
    simp only [Option.some.injEq, Prod.mk.injEq] at e
    obtain ⟨rfl, rfl⟩ := e
    obtain ⟨F1, fp1, g1, r1, q1, _⟩ := Ep.evV r h1 e1
    obtain ⟨F2, fp2, g2, r2, q2⟩ := Eps.evVs r1 (h2.mono g1) e2
    exact ⟨F2, fp2, g1.trans g2, r2, v, vs, rfl, RepF.mono g2 _ _ q1, q2⟩
/-- .. just made -/
theorem Ev.evV {v : V} {ev : EV} {d : D} (r : Rl K cA F W.P W.pn fp s σ H) (h : Ev K cA F W.P H fp s σ v ev) (e : NS.evV ev s = some (d, s')) : ∃ F' fp', Same F F' ∧ Rl K cA F' W.P W.pn fp' s' σ H ∧ RepF K cA F' d v ∧ d.own = false := by
  obtain ⟨F1, g1, r1, p1⟩ := h.pend r
  have e' : NS.evV ev.pend s = some (d, s') := by
    cases ev with
    | val d' =>
      simp only [NS.evV, EV.pend] at e ⊢
      rw [← e]
      have z : d'.frz.frz = d'.frz := by
        cases d' <;> try rfl
        rename_i o c ks xs
        simp only [D.frz]
        have : ∀ l : List D, D.frzs (D.frzs l) = D.frzs l := by
          have key : ∀ d : D, d.frz.frz = d.frz := by
            intro d
            induction d using D.rec (motive_2 := fun l => D.frzs (D.frzs l) = D.frzs l) with
            | non => rfl
            | bl _ => rfl
            | int _ => rfl
            | str _ => rfl
            | tup _ _ => rfl
            | lst _ _ _ => rfl
            | ro _ _ => rfl
            | dct _ _ _ _ => rfl
            | obj o c ks xs ih => simp only [D.frz]; rw [ih]
            | nil => rfl
            | cons d l h1 h2 => simp only [D.frzs]; rw [h1, h2]
          intro l
          induction l with
          | nil => rfl
          | cons d l ih => simp only [D.frzs]; rw [key d, ih]
        rw [this]
      rw [z]
    | al i => exact e
  obtain ⟨F2, fp2, g2, r2, q, o⟩ := Ep.evV r1 p1 e'
  exact ⟨F2, fp2, g1.trans g2, r2, q, o⟩
/-- a list that may be read at v -/
theorem Ep.list {v : V} {ev : EV} {o : Bool} {xs : List D} (r : Rl K cA F W.P W.pn fp s σ H) (h : Ep K cA F σ v ev) (e : evR ev s = some (.lst o xs)) : ∃ a vs, v = .ref a ∧ H a = some (.lst vs) ∧ RepFs K cA F xs vs := by
  cases ev with
  | val d' =>
    simp only [evR, Option.some.injEq] at e
    cases d' <;> simp only [D.frz, D.lst.injEq, reduceCtorEq] at e
    obtain ⟨rfl, rfl⟩ := e
    obtain ⟨⟨a, vs, h1, h2, h3⟩, _⟩ := h
    exact ⟨a, vs, h1, r.fz _ _ h2, h3⟩
  | al i =>
    simp only [evR] at e
    split at e
    · rename_i d' hd
      simp only [Option.some.injEq] at e
      cases d' <;> simp only [D.frz, D.lst.injEq, reduceCtorEq] at e
      rename_i o' xs'
      obtain ⟨rfl, rfl⟩ := e
      obtain ⟨u, hu, q⟩ := r.sl i _ hd
      have hv : σ[i]? = some (some v) := h
      rw [hv] at hu
      cases hu
      cases o' with
      | true =>
        obtain ⟨a, vs, h1, h2, h3, _⟩ := q
        exact ⟨a, vs, h1, h2, h3⟩
      | false =>
        obtain ⟨⟨a, vs, h1, h2, h3⟩, _⟩ := q
        exact ⟨a, vs, h1, r.fz _ _ h2, h3⟩
    · cases e
theorem Ep.dict {v : V} {ev : EV} {o : Bool} {ks : List Key} {xs : List D} (r : Rl K cA F W.P W.pn fp s σ H) (h : Ep K cA F σ v ev) (e : evR ev s = some (.dct o ks xs)) : ∃ a vs, v = .ref a ∧ H a = some (.dK (ks.zip vs)) ∧ ks.length = vs.length ∧ RepFs K cA F xs vs := by
  cases ev with
  | val d' =>
    simp only [evR, Option.some.injEq] at e
    cases d' <;> simp only [D.frz, D.dct.injEq, reduceCtorEq] at e
    obtain ⟨rfl, rfl, rfl⟩ := e
    obtain ⟨⟨a, vs, h1, h2, hl, h3⟩, _⟩ := h
    exact ⟨a, vs, h1, r.fz _ _ h2, hl, h3⟩
  | al i =>
    simp only [evR] at e
    split at e
    · rename_i d' hd
      simp only [Option.some.injEq] at e
      cases d' <;> simp only [D.frz, D.dct.injEq, reduceCtorEq] at e
      rename_i o' ks' xs'
      obtain ⟨rfl, rfl, rfl⟩ := e
      obtain ⟨u, hu, q⟩ := r.sl i _ hd
      have hv : σ[i]? = some (some v) := h
      rw [hv] at hu
      cases hu
      cases o' with
      | true =>
        obtain ⟨a, vs, h1, h2, hl, h3, _⟩ := q
        exact ⟨a, vs, h1, h2, hl, h3⟩
      | false =>
        obtain ⟨⟨a, vs, h1, h2, hl, h3⟩, _⟩ := q
        exact ⟨a, vs, h1, r.fz _ _ h2, hl, h3⟩
    · cases e
/-- data that are no container of one place -/
def D.flat : D → Bool
  | .lst _ _ => false
  | .dct _ _ _ => false
  | .obj _ _ _ _ => false
  | _ => true
theorem Ep.flat {v : V} {ev : EV} {d : D} (r : Rl K cA F W.P W.pn fp s σ H) (h : Ep K cA F σ v ev) (e : evR ev s = some d) (f : d.flat = true) : RepF K cA F d v := by
  cases ev with
  | val d' =>
    simp only [evR, Option.some.injEq] at e
    subst e
    exact RepF.frz _ _ h.1
  | al i =>
    simp only [evR] at e
    split at e
    · rename_i d' hd
      simp only [Option.some.injEq] at e
      subst e
      obtain ⟨u, hu, q⟩ := r.sl i _ hd
      have hv : σ[i]? = some (some v) := h
      rw [hv] at hu
      cases hu
      have ho : d'.own = false := by cases d' <;> simp_all [D.frz, D.flat, D.own]
      exact RepF.frz _ _ (Vl.of_frozen ho q).1
    · cases e

/-! ### composing -/
theorem Po.up {α : Type} {r : R α} {C C' : α → Sl → Prop} (e : Same F F') (h : Po K cA W F σ r C) (hc : ∀ a s, r = .ok a s → C a s → C' a s) : Po K cA W F' σ r C' := by
  cases r with
  | ok a s => exact hc a s rfl h
  | ex x s => exact fun cls dx H' F2 fp' g => h cls dx H' F2 fp' (e.trans g)
  | no => exact h
theorem Po.bind {α β : Type} {r : R α} {k : α → Sl → R β} {C : β → Sl → Prop} {C' : α → Sl → Prop} (h : Po K cA W F σ (r.bind k) C) (hc : ∀ a s, r = .ok a s → Po K cA W F σ (k a s) C → C' a s) : Po K cA W F σ r C' := by
  cases r with
  | ok a s => exact hc a s rfl h
  | ex x s => exact h
  | no => exact h
end
end NS
namespace NS
open PySem PySem.Spec PyProof.Rows L2

/-! ## 3. the text: no stars -/
def noStar : Expr → Bool
  | .Starred _ _ => false
  | _ => true
theorem starEach_cons {e : Expr} {es : List Expr} {env : Env} (h : noStar e = true) : starEach (e :: es) env = (false, eval e env) :: starEach es env := by
  cases e <;> first | rfl | exact absurd h Bool.false_ne_true
theorem starEach_plain {env : Env} : ∀ {es : List Expr}, es.all noStar = true → (starEach es env).any (·.1) = false
  | [], _ => rfl
  | e :: es, h => by
    rw [List.all_cons, Bool.and_eq_true] at h
    rw [starEach_cons h.1, List.any_cons, starEach_plain h.2]
    rfl
theorem backTo_any {pos : Pos} : ∀ {l : List (Bool × Sem Value)}, (backTo pos l).any (·.1) = l.any (·.1)
  | [] => rfl
  | (b, t) :: r => by
    show (b || (backTo pos r).any (·.1)) = (b || r.any (·.1))
    rw [backTo_any]
theorem back_plain {env : Env} {pos : Pos} {es : List Expr} (h : es.all noStar = true) : (backTo pos (starEach es env)).any (·.1) = false := by
  rw [backTo_any, starEach_plain h]
def notSlice : Expr → Bool
  | .Slice _ _ _ _ => false
  | _ => true
theorem plainIx {e : Expr} (h : notSlice e = true) : PlainIx e := by
  intro o i
  cases e <;> first | rfl | exact absurd h Bool.false_ne_true
/-- expressions whose test is their value's truth -/
def plainTest : Expr → Bool
  | .UnaryOp .Not _ _ => false
  | .BoolOp _ _ _ => false
  | .IfExp _ _ _ _ => false
  | .Compare _ _ _ _ => false
  | _ => true
theorem isTrue_eq {e : Expr} {env : Env} (h : plainTest e = true) (whole : Sem Value) : isTrue e env whole = (do let v ← whole; standAt e.pos; holding [v] (truthy v)) := by
  cases e with
  | UnaryOp op x p => cases op <;> first | rfl | exact absurd h Bool.false_ne_true
  | BoolOp _ _ _ => exact absurd h Bool.false_ne_true
  | IfExp _ _ _ _ => exact absurd h Bool.false_ne_true
  | Compare _ _ _ _ => exact absurd h Bool.false_ne_true
  | _ => rfl
def notComp : Expr → Bool
  | .ListComp _ _ _ _ => false
  | .SetComp _ _ _ _ => false
  | .DictComp _ _ _ _ _ => false
  | _ => true
theorem swaps_no {e : Expr} {t : Option Expr} {l : Nat} {env : Env} (h : notComp e = true) : swapsWith e t l env = pure false := by
  cases e <;> first | rfl | exact absurd h Bool.false_ne_true
def notSet : Expr → Bool
  | .Set _ _ _ => false
  | _ => true
theorem folded_eq {e : Expr} {env : Env} (h : notSet e = true) (x : Value) : foldedSetIterable e env x = pure x := by
  cases e <;> first | rfl | exact absurd h Bool.false_ne_true
theorem behind_no {op : CmpOp} {e : Expr} (h : notSet e = true) : behindInMarks op e = false := by
  cases e <;> first | rfl | exact absurd h Bool.false_ne_true
def notCall : Expr → Bool
  | .Call _ _ _ _ => false
  | _ => true
theorem attrBase_eq {e : Expr} {f : Str} {env : Env} (h : notCall e = true) : attributeBase e f env (eval e env) = eval e env := by
  cases e <;> first | rfl | exact absurd h Bool.false_ne_true

theorem PE_mono {X : Cx} {e : Expr} {t t' : TE} (h : PE X e t) (w : ∀ σ H Q, t' σ H Q → t σ H Q) : PE X e t' := ⟨fun pins s σ H Q I q => h.run pins s σ H Q I (w σ H Q q)⟩
theorem PT_mono {X : Cx} {e : Expr} {t t' : TT} (h : PT X e t) (w : ∀ σ H Q, t' σ H Q → t σ H Q) : PT X e t' := ⟨fun pins s σ H Q I q => h.run pins s σ H Q I (w σ H Q q)⟩
theorem PW_mono {X : Cx} {e : Expr} {t t' : TT} (h : PW X e t) (w : ∀ σ H Q, t' σ H Q → t σ H Q) : PW X e t' := ⟨fun wh pins s σ H Q I q => h.run wh pins s σ H Q I (w σ H Q q)⟩
theorem PA_mono {X : Cx} {es : List Expr} {t t' : TA} (h : PA X es t) (w : ∀ σ H Q, t' σ H Q → t σ H Q) : PA X es t' := ⟨fun pos pins s σ H Q I q => h.run pos pins s σ H Q I (w σ H Q q)⟩
theorem PS_mono {X : Cx} {st : Stmt} {t t' : TS} (h : PS X st t) (w : ∀ D σ H, t' D σ H → t D σ H) : PS X st t' := ⟨fun pins s σ H D I q => h.run pins s σ H D I (w D σ H q)⟩
theorem PSs_mono {X : Cx} {st : List Stmt} {t t' : TS} (h : PSs X st t) (w : ∀ D σ H, t' D σ H → t D σ H) : PSs X st t' := ⟨fun pins s σ H D I q => h.run pins s σ H D I (w D σ H q)⟩

/-! ## 4. combinators -/
def nameE (i : Nat) : Sl → R EV := fun s => match s[i]? with
  | some (some d) => if d.own then .ok (.al i) s else .ok (.val d) s
  | _ => .no
def constE (d : D) : Sl → R EV := fun s => .ok (.val d) s
/-- one value, pending -/
def penE {β : Type} (f : Sl → R EV) (k : EV → Sl → R β) : Sl → R β := fun s => (f s).bind fun e s1 => k e.pend s1
/-- two values -/
def bin2 {β : Type} (fa fb : Sl → R EV) (k : EV → EV → Sl → R β) : Sl → R β := penE fa fun e1 => penE fb (k e1)
def argsE : List (Sl → R EV) → Sl → R (List EV)
  | [], s => .ok [] s
  | f :: fs, s => penE f (fun e s1 => (argsE fs s1).bind fun es s2 => .ok (e :: es) s2) s
/-- all values, kept -/
def valsE (fs : List (Sl → R EV)) : Sl → R (List D) := fun s => (argsE fs s).bind fun es s1 => match evVs es s1 with
  | some (ds, s2) => .ok ds s2
  | none => .no
/-- the longest list that is made -/
def LN : Nat := 16000000
theorem LN_le : LN ≤ sizeLine := by rw [sizeLine_eq]; decide
def fits (n : Nat) : Bool := Nat.ble n LN
theorem fits_le {n : Nat} (h : fits n = true) : n ≤ LN := Nat.le_of_ble_eq_true h
def tupK (ds : List D) (s : Sl) : R EV := if fits ds.length then .ok (.val (.tup ds)) s else .no
def lstK (ds : List D) (s : Sl) : R EV := if fits ds.length then .ok (.val (.lst true ds)) s else .no
def tupE (g : Sl → R (List D)) : Sl → R EV := fun s => (g s).bind tupK
def lstE (g : Sl → R (List D)) : Sl → R EV := fun s => (g s).bind lstK
def op2K (op : D → D → Option D) (e1 e2 : EV) (s : Sl) : R EV := match evR e1 s, evR e2 s with
  | some d1, some d2 => match op d1 d2 with
    | some d => .ok (.val d) s
    | none => .no
  | _, _ => .no
def op1K (op : D → Option D) (e1 : EV) (s : Sl) : R EV := match evR e1 s with
  | some d1 => match op d1 with
    | some d => .ok (.val d) s
    | none => .no
  | _ => .no
def boolK (r : EV) (s : Sl) : R Bool := match r with
  | .val (.bl b) => .ok b s
  | _ => .no
def asT (f : Sl → R EV) : Sl → R Bool := fun s => (f s).bind boolK
def truD : D → Option Bool
  | .non => some false
  | .bl b => some b
  | .int i => some (i != 0)
  | .str x => if fits x.length then some ((x.length : Int) != 0) else none
  | .tup xs => some (!xs.isEmpty)
  | .lst _ xs => some (!xs.isEmpty)
  | .ro xs => some (!xs.isEmpty)
  | .dct _ _ xs => some (!xs.isEmpty)
  | .obj _ _ _ _ => none
def truK (e : EV) (s : Sl) : R Bool := match evR e s with
  | some d => match truD d with
    | some b => .ok b s
    | none => .no
  | none => .no
def truT (f : Sl → R EV) : Sl → R Bool := penE f truK
def notT (f : Sl → R Bool) : Sl → R Bool := fun s => (f s).bind fun b s1 => .ok (!b) s1
def andT (f g : Sl → R Bool) : Sl → R Bool := fun s => (f s).bind fun b s1 => if b then g s1 else .ok false s1
def orT (f g : Sl → R Bool) : Sl → R Bool := fun s => (f s).bind fun b s1 => if b then .ok true s1 else g s1
def ifE (c : Sl → R Bool) (f g : Sl → R EV) : Sl → R EV := fun s => (c s).bind fun b s1 => if b then f s1 else g s1
/-- bools as values -/
def andE (f g : Sl → R EV) : Sl → R EV := fun s => (f s).bind fun e s1 => match e with
  | .val (.bl true) => g s1
  | .val (.bl false) => .ok (.val (.bl false)) s1
  | _ => .no
def orE (f g : Sl → R EV) : Sl → R EV := fun s => (f s).bind fun e s1 => match e with
  | .val (.bl true) => .ok (.val (.bl true)) s1
  | .val (.bl false) => g s1
  | _ => .no
def notE (f : Sl → R EV) : Sl → R EV := fun s => (f s).bind fun e s1 => match e with
  | .val (.bl b) => .ok (.val (.bl (!b))) s1
  | _ => .no

section
variable {X : Cx} {cA : Nat → Addr} {W : Gx}
abbrev SE (X : Cx) (cA : Nat → Addr) (W : Gx) (e : Expr) (f : Sl → R EV) : Prop := PE X e (tE X.K cA W f)
abbrev ST (X : Cx) (cA : Nat → Addr) (W : Gx) (e : Expr) (f : Sl → R Bool) : Prop := PT X e (tT X.K cA W f)
abbrev SW (X : Cx) (cA : Nat → Addr) (W : Gx) (e : Expr) (f : Sl → R Bool) : Prop := PW X e (tT X.K cA W f)
abbrev SA (X : Cx) (cA : Nat → Addr) (W : Gx) (es : List Expr) (f : Sl → R (List EV)) : Prop := PA X es (tA X.K cA W f)
abbrev SV (X : Cx) (cA : Nat → Addr) (W : Gx) (es : List Expr) (f : Sl → R (List D)) : Prop := PA X es (tV X.K cA W f)

variable {e a b c : Expr} {es : List Expr} {f g : Sl → R EV} {gs : Sl → R (List EV)} {pos : Pos}

theorem se_name {i : Nat} {x : Str} (hN : X.N[i]? = some x) (hv : Vis X.env.scope x) (hd : (x == ("__debug__" : Str)) = false) (hcd : (x == ("__classdict__" : Str)) = false) : SE X cA W (.Name x pos) (nameE i) := by
  refine PE_mono (pe_var hN hv hd hcd) fun σ H Q h => ?_
  obtain ⟨F, fp, s, r, p⟩ := h
  unfold nameE at p
  split at p
  · rename_i d hd
    obtain ⟨v, hv, q⟩ := r.sl i d hd
    refine ⟨v, hv, ?_⟩
    split at p
    · exact p v H F fp (Same.refl F) r ⟨⟨d, hd⟩, hv⟩
    · rename_i ho
      obtain ⟨q1, q2⟩ := Vl.of_frozen (by simpa using ho) q
      exact p v H F fp (Same.refl F) r (Ev.fro (by simpa using ho) q1)
  · exact p.elim
theorem se_const {v : V} {d : D} (h : PE X e (tC v)) (ho : d.own = false) (hr : ∀ F, RepF X.K cA F d v) : SE X cA W e (constE d) := by
  refine PE_mono h fun σ H Q h => ?_
  obtain ⟨F, fp, s, r, p⟩ := h
  exact p v H F fp (Same.refl F) r (Ev.fro ho (hr F))
theorem se_int {i : Int} {j : Nat} : SE X cA W (.Constant (.int i) j pos) (constE (.int i)) := se_const pe_int rfl fun _ => rfl
theorem se_bl {i : Bool} {j : Nat} : SE X cA W (.Constant (.bool i) j pos) (constE (.bl i)) := se_const pe_bl rfl fun _ => rfl
theorem se_non {j : Nat} : SE X cA W (.Constant .none j pos) (constE .non) := se_const pe_non rfl fun _ => rfl
theorem se_str {i : Str} {j : Nat} : SE X cA W (.Constant (.str i) j pos) (constE (.str i)) := se_const pe_str rfl fun _ => rfl

/-- one value, pending, and what comes then -/
theorem pen_run {β : Type} {k : EV → Sl → R β} {σ : L2.St} {H : Hp} {C : Hp → β → Sl → Prop} {F : Hp} {fp : Nat → List Addr} {s : Sl} (mono : ∀ F F' b s, Same F F' → C F b s → C F' b s)
    (r : Rl X.K cA F W.P W.pn fp s σ H) (p : Po X.K cA W F σ (penE f k s) (C F)) :
    tE X.K cA W f σ H fun x H1 => ∃ F1 fp1 s1 e1, Rl X.K cA F1 W.P W.pn fp1 s1 σ H1 ∧ Ep X.K cA F1 σ x e1 ∧ Same F F1 ∧ Po X.K cA W F1 σ (k e1 s1) (C F1) := by
  refine ⟨F, fp, s, r, Po.bind p fun e1 s1 _ p1 => fun x H1 F1 fp1 g1 r1 q1 => ?_⟩
  obtain ⟨F2, g2, r2, q2⟩ := q1.pend r1
  exact ⟨F2, fp1, s1, e1.pend, r2, q2, g1.trans g2, Po.up (g1.trans g2) p1 fun b s' _ z => mono _ _ _ _ (g1.trans g2) z⟩
theorem KE_mono {σ : L2.St} {Q : VK}  : ∀ F F' b s, Same F F' → KE X.K cA W F σ Q b s → KE X.K cA W F' σ Q b s := fun F F' b s g h v H' F2 fp' g2 => h v H' F2 fp' (g.trans g2)
theorem KT_mono {σ : L2.St} {Q : Bool → Hp → Prop}  : ∀ F F' b s, Same F F' → KT X.K cA W F σ Q b s → KT X.K cA W F' σ Q b s := fun F F' b s g h H' F2 fp' g2 => h H' F2 fp' (g.trans g2)
theorem KA_mono {σ : L2.St} {Q : List V → Hp → Prop}  : ∀ F F' b s, Same F F' → KA X.K cA W F σ Q b s → KA X.K cA W F' σ Q b s := fun F F' b s g h vs H' F2 fp' g2 => h vs H' F2 fp' (g.trans g2)
theorem KV_mono {σ : L2.St} {Q : List V → Hp → Prop}  : ∀ F F' b s, Same F F' → KV X.K cA W F σ Q b s → KV X.K cA W F' σ Q b s := fun F F' b s g h vs H' F2 fp' g2 => h vs H' F2 fp' (g.trans g2)

/-- what is known behind two values -/
def Two (X : Cx) (cA : Nat → Addr) (W : Gx) {β : Type} (k : EV → EV → Sl → R β) (C : Hp → β → Sl → Prop) (σ : L2.St) (x y : V) (H : Hp) : Prop :=
  ∃ F fp s e1 e2, Rl X.K cA F W.P W.pn fp s σ H ∧ Ep X.K cA F σ x e1 ∧ Ep X.K cA F σ y e2 ∧ Po X.K cA W F σ (k e1 e2 s) (C F)
theorem bin_run {β : Type} {k : EV → EV → Sl → R β} {σ : L2.St} {H : Hp} {C : Hp → β → Sl → Prop} (mono : ∀ F F' b s, Same F F' → C F b s → C F' b s)
    (h : ∃ F fp s, Rl X.K cA F W.P W.pn fp s σ H ∧ Po X.K cA W F σ (bin2 f g k s) (C F)) :
    tE X.K cA W f σ H fun x H1 => tE X.K cA W g σ H1 fun y H2 => Two X cA W k C σ x y H2 := by
  obtain ⟨F, fp, s, r, p⟩ := h
  have := pen_run (C := C) mono r p
  obtain ⟨F0, fp0, s0, r0, p0⟩ := this
  refine ⟨F0, fp0, s0, r0, Po.up (Same.refl _) p0 fun ev s' _ z x H1 F' fp' g' r' q' => ?_⟩
  obtain ⟨F1, fp1, s1, e1, r1, q1, g1, p1⟩ := z x H1 F' fp' g' r' q'
  have := pen_run (C := C) mono r1 p1
  obtain ⟨F2, fp2, s2, r2, p2⟩ := this
  refine ⟨F2, fp2, s2, r2, Po.up (Same.refl _) p2 fun ev s' _ z y H2 F' fp' g' r' q' => ?_⟩
  obtain ⟨F3, fp3, s3, e3, r3, q3, g3, p3⟩ := z y H2 F' fp' g' r' q'
  exact ⟨F3, fp3, s3, e1, e3, r3, q1.mono g3, q3, p3⟩
/-- what is known behind one value -/
def One (X : Cx) (cA : Nat → Addr) (W : Gx) {β : Type} (k : EV → Sl → R β) (C : Hp → β → Sl → Prop) (σ : L2.St) (x : V) (H : Hp) : Prop :=
  ∃ F fp s e1, Rl X.K cA F W.P W.pn fp s σ H ∧ Ep X.K cA F σ x e1 ∧ Po X.K cA W F σ (k e1 s) (C F)
theorem one_run {β : Type} {k : EV → Sl → R β} {σ : L2.St} {H : Hp} {C : Hp → β → Sl → Prop} (mono : ∀ F F' b s, Same F F' → C F b s → C F' b s)
    (h : ∃ F fp s, Rl X.K cA F W.P W.pn fp s σ H ∧ Po X.K cA W F σ (penE f k s) (C F)) :
    tE X.K cA W f σ H fun x H1 => One X cA W k C σ x H1 := by
  obtain ⟨F, fp, s, r, p⟩ := h
  have := pen_run (C := C) mono r p
  obtain ⟨F0, fp0, s0, r0, p0⟩ := this
  refine ⟨F0, fp0, s0, r0, Po.up (Same.refl _) p0 fun ev s' _ z x H1 F' fp' g' r' q' => ?_⟩
  obtain ⟨F1, fp1, s1, e1, r1, q1, g1, p1⟩ := z x H1 F' fp' g' r' q'
  exact ⟨F1, fp1, s1, e1, r1, q1, p1⟩

/-! ### argument lists -/
theorem sa_nil : SA X cA W [] (argsE []) := by
  refine PA_mono pa_nil fun σ H Q h => ?_
  obtain ⟨F, fp, s, r, p⟩ := h
  exact p [] H F fp (Same.refl F) r rfl
theorem sa_cons {fs : List (Sl → R EV)} (ha : SE X cA W e f) (hr : SA X cA W es (argsE fs)) (hs : noStar e = true) : SA X cA W (e :: es) (argsE (f :: fs)) := by
  refine PA_mono (pa_cons ha hr (starEach_cons hs)) fun σ H Q h => ?_
  obtain ⟨F, fp, s, r, p⟩ := h
  have z := pen_run (C := fun F => KA X.K cA W F σ Q) KA_mono r p
  obtain ⟨F0, fp0, s0, r0, p0⟩ := z
  refine ⟨F0, fp0, s0, r0, Po.up (Same.refl _) p0 fun ev s' _ z x H1 F' fp' g' r' q' => ?_⟩
  obtain ⟨F1, fp1, s1, e1, r1, q1, g1, p1⟩ := z x H1 F' fp' g' r' q'
  refine ⟨F1, fp1, s1, r1, Po.bind p1 fun es2 s2 _ p2 vs H2 F2 fp2 g2 r2 q2 => ?_⟩
  exact p2 (x :: vs) H2 F2 fp2 g2 r2 ⟨e1, es2, rfl, q1.mono g2, q2⟩
theorem sv_of {fs : List (Sl → R EV)} (ha : SA X cA W es (argsE fs)) : SV X cA W es (valsE fs) := by
  refine PA_mono ha fun σ H Q h => ?_
  obtain ⟨F, fp, s, r, p⟩ := h
  refine ⟨F, fp, s, r, Po.bind p fun es1 s1 _ p1 vs H1 F1 fp1 g1 r1 q1 => ?_⟩
  split at p1
  · rename_i ds s2 hd
    obtain ⟨F2, fp2, g2, r2, q2⟩ := Eps.evVs r1 q1 hd
    exact p1 vs H1 F2 fp2 (g1.trans g2) r2 q2
  · exact p1.elim
theorem se_tup {gv : Sl → R (List D)} {k : Nat} (h : SV X cA W es gv) : SE X cA W (.Tuple es k pos) (tupE gv) := by
  refine PE_mono (pe_tup h) fun σ H Q h => ?_
  obtain ⟨F, fp, s, r, p⟩ := h
  refine ⟨F, fp, s, r, Po.bind p fun ds s1 _ p1 vs H1 F1 fp1 g1 r1 q1 => ?_⟩
  unfold tupK at p1
  split at p1
  · rename_i hf
    have hl := q1.length
    refine ⟨Nat.le_trans (by rw [← hl]; exact fits_le hf) LN_le, fun a ha => ?_⟩
    have e1 := same_upd (Same.free r1.fz ha) (.tup vs)
    exact p1 (.ref a) _ _ fp1 (g1.trans e1) (r1.newF ha (.tup vs)) (Ev.fro rfl ⟨a, vs, rfl, .of upd_same, q1.mono e1⟩)
  · exact p1.elim
/-- a new list at a -/
theorem new_list {F H : Hp} {fp : Nat → List Addr} {s : Sl} {σ : L2.St} {a : Addr} {vs : List V} {ds : List D} (r : Rl X.K cA F W.P W.pn fp s σ H) (ha : H a = none) (q : RepFs X.K cA F ds vs) :
    Rl X.K cA F W.P W.pn fp s σ (upd H a (.lst vs)) ∧ Ev X.K cA F W.P (upd H a (.lst vs)) fp s σ (.ref a) (.val (.lst true ds)) := by
  refine ⟨r.new ha _, [a], ⟨a, vs, rfl, upd_same, q, rfl⟩, by simp, fun j b hb hj => ?_, fun b hb => ?_⟩
  · rw [List.mem_singleton.mp hb] at hj
    obtain ⟨o, z⟩ := r.there hj
    rw [ha] at z; cases z
  · rw [List.mem_singleton.mp hb]
    exact ⟨Same.free r.fz ha, Same.free r.pr ha⟩
theorem se_lst {gv : Sl → R (List D)} (h : SV X cA W es gv) : SE X cA W (.List es pos) (lstE gv) := by
  refine PE_mono (pe_lst h) fun σ H Q h => ?_
  obtain ⟨F, fp, s, r, p⟩ := h
  refine ⟨F, fp, s, r, Po.bind p fun ds s1 _ p1 vs H1 F1 fp1 g1 r1 q1 => ?_⟩
  unfold lstK at p1
  split at p1
  · rename_i hf
    have hl := q1.length
    refine ⟨Nat.le_trans (by rw [← hl]; exact fits_le hf) LN_le, fun a ha => ?_⟩
    obtain ⟨r2, q2⟩ := new_list r1 ha q1
    exact p1 (.ref a) _ _ fp1 g1 r2 q2
  · exact p1.elim

/-! ### tests -/
theorem st_val (h : SE X cA W e f) (hp : plainTest e = true) : ST X cA W e (truT f) := by
  refine PT_mono (pt_truth h (isTrue_eq hp)) fun σ H Q h => ?_
  obtain ⟨F, fp, s, r, p⟩ := one_run (C := fun F => KT X.K cA W F σ Q) KT_mono h
  refine ⟨F, fp, s, r, Po.up (Same.refl _) p fun ev s' _ z x H1 F' fp' g' r' q' => ?_⟩
  obtain ⟨F1, fp1, s1, e1, r1, q1, p1⟩ := z x H1 F' fp' g' r' q'
  unfold truK at p1
  split at p1
  · rename_i d hd
    split at p1
    · rename_i k hk
      refine ⟨k, ?_, p1 H1 F1 fp1 (Same.refl _) r1⟩
      cases d with
      | non =>
        cases (Ep.flat r1 q1 hd rfl : x = _)
        cases hk; exact rfl
      | bl b =>
        cases (Ep.flat r1 q1 hd rfl : x = _)
        cases hk; exact rfl
      | int i =>
        cases (Ep.flat r1 q1 hd rfl : x = _)
        cases hk; exact rfl
      | str z =>
        cases (Ep.flat r1 q1 hd rfl : x = _)
        simp only [truD] at hk
        split at hk
        · rename_i hf
          cases hk
          exact ⟨Nat.le_trans (fits_le hf) LN_le, rfl⟩
        · cases hk
      | tup xs =>
        obtain ⟨a, vs, rfl, h2, h3⟩ := Ep.flat r1 q1 hd rfl
        cases hk
        refine .inr (.inl ⟨vs, SqT_mono h2 r1.fz, ?_⟩)
        have hl := h3.length
        cases xs <;> cases vs <;> first | rfl | cases hl
      | ro xs =>
        obtain ⟨a, vs, rfl, h2, h3⟩ := Ep.flat r1 q1 hd rfl
        cases hk
        refine .inl ⟨vs, r1.fz.seq h2, ?_⟩
        have hl := h3.length
        cases xs <;> cases vs <;> first | rfl | cases hl
      | lst o xs =>
        obtain ⟨a, vs, rfl, h2, h3⟩ := Ep.list r1 q1 hd
        cases hk
        refine .inl ⟨vs, .of h2, ?_⟩
        have hl := h3.length
        cases xs <;> cases vs <;> first | rfl | cases hl
      | dct o ks xs =>
        obtain ⟨a, vs, rfl, h2, hl0, h3⟩ := Ep.dict r1 q1 hd
        cases hk
        refine .inr (.inr ⟨_, h2, ?_⟩)
        have hl := h3.length
        cases xs <;> cases vs <;> cases ks <;> first | rfl | cases hl | cases hl0
      | obj o c ks xs => cases hk
    · exact p1.elim
  · exact p1.elim
theorem st_not {tf : Sl → R Bool} (h : ST X cA W e tf) : ST X cA W (.UnaryOp .Not e pos) (notT tf) := by
  refine PT_mono (pt_not h) fun σ H Q h => ?_
  obtain ⟨F, fp, s, r, p⟩ := h
  exact ⟨F, fp, s, r, Po.bind p fun b s1 _ p1 H1 F1 fp1 g1 r1 => p1 H1 F1 fp1 g1 r1⟩
theorem sw_and {tf tg : Sl → R Bool} {rest : List Expr} (ha : ST X cA W a tf) (hb : SW X cA W (.BoolOp .And (b :: rest) pos) tg) : SW X cA W (.BoolOp .And (a :: b :: rest) pos) (andT tf tg) := by
  refine PW_mono (pw_and ha hb) fun σ H Q h => ?_
  obtain ⟨F, fp, s, r, p⟩ := h
  refine ⟨F, fp, s, r, Po.bind p fun c s1 _ p1 H1 F1 fp1 g1 r1 => ?_⟩
  cases c with
  | true => exact iteT ⟨F1, fp1, s1, r1, Po.up g1 p1 fun b s' _ z => KT_mono _ _ _ _ g1 z⟩
  | false => exact iteF (p1 H1 F1 fp1 g1 r1)
theorem sw_or {tf tg : Sl → R Bool} {rest : List Expr} (ha : ST X cA W a tf) (hb : SW X cA W (.BoolOp .Or (b :: rest) pos) tg) : SW X cA W (.BoolOp .Or (a :: b :: rest) pos) (orT tf tg) := by
  refine PW_mono (pw_or ha hb) fun σ H Q h => ?_
  obtain ⟨F, fp, s, r, p⟩ := h
  refine ⟨F, fp, s, r, Po.bind p fun c s1 _ p1 H1 F1 fp1 g1 r1 => ?_⟩
  cases c with
  | true => exact iteT (p1 H1 F1 fp1 g1 r1)
  | false => exact iteF ⟨F1, fp1, s1, r1, Po.up g1 p1 fun b s' _ z => KT_mono _ _ _ _ g1 z⟩
theorem se_if {tc : Sl → R Bool} (hc : ST X cA W c tc) (ha : SE X cA W a f) (hb : SE X cA W b g) : SE X cA W (.IfExp c a b pos) (ifE tc f g) := by
  refine PE_mono (pe_ifExp hc ha hb) fun σ H Q h => ?_
  obtain ⟨F, fp, s, r, p⟩ := h
  refine ⟨F, fp, s, r, Po.bind p fun c s1 _ p1 H1 F1 fp1 g1 r1 => ?_⟩
  cases c with
  | true => exact iteT ⟨F1, fp1, s1, r1, Po.up g1 p1 fun b s' _ z => KE_mono _ _ _ _ g1 z⟩
  | false => exact iteF ⟨F1, fp1, s1, r1, Po.up g1 p1 fun b s' _ z => KE_mono _ _ _ _ g1 z⟩
theorem Ev.bl {F H : Hp} {fp : Nat → List Addr} {s : Sl} {σ : L2.St} {v : V} {b : Bool} (h : Ev X.K cA F W.P H fp s σ v (.val (.bl b))) : v = .bl b := by
  obtain ⟨l, q, _⟩ := h
  exact q.1
theorem se_and {rest : List Expr} (ha : SE X cA W a f) (hb : SE X cA W (.BoolOp .And (b :: rest) pos) g) : SE X cA W (.BoolOp .And (a :: b :: rest) pos) (andE f g) := by
  refine PE_mono (pe_and ha hb) fun σ H Q h => ?_
  obtain ⟨F, fp, s, r, p⟩ := h
  refine ⟨F, fp, s, r, Po.bind p fun c s1 _ p1 v H1 F1 fp1 g1 r1 q1 => ?_⟩
  split at p1
  · cases Ev.bl q1
    exact ⟨true, rfl, iteT ⟨F1, fp1, s1, r1, Po.up g1 p1 fun b s' _ z => KE_mono _ _ _ _ g1 z⟩⟩
  · cases Ev.bl q1
    exact ⟨false, rfl, iteF (p1 _ H1 F1 fp1 g1 r1 (Ev.fro rfl rfl))⟩
  · exact p1.elim
theorem se_or {rest : List Expr} (ha : SE X cA W a f) (hb : SE X cA W (.BoolOp .Or (b :: rest) pos) g) : SE X cA W (.BoolOp .Or (a :: b :: rest) pos) (orE f g) := by
  refine PE_mono (pe_or ha hb) fun σ H Q h => ?_
  obtain ⟨F, fp, s, r, p⟩ := h
  refine ⟨F, fp, s, r, Po.bind p fun c s1 _ p1 v H1 F1 fp1 g1 r1 q1 => ?_⟩
  split at p1
  · cases Ev.bl q1
    exact ⟨true, rfl, iteT (p1 _ H1 F1 fp1 g1 r1 (Ev.fro rfl rfl))⟩
  · cases Ev.bl q1
    exact ⟨false, rfl, iteF ⟨F1, fp1, s1, r1, Po.up g1 p1 fun b s' _ z => KE_mono _ _ _ _ g1 z⟩⟩
  · exact p1.elim
theorem se_not (ha : SE X cA W a f) : SE X cA W (.UnaryOp .Not a pos) (notE f) := by
  refine PE_mono (pe_not ha) fun σ H Q h => ?_
  obtain ⟨F, fp, s, r, p⟩ := h
  refine ⟨F, fp, s, r, Po.bind p fun c s1 _ p1 v H1 F1 fp1 g1 r1 q1 => ?_⟩
  split at p1
  · cases Ev.bl q1
    exact ⟨_, rfl, p1 _ H1 F1 fp1 g1 r1 (Ev.fro rfl rfl)⟩
  · exact p1.elim
end
end NS
namespace NS
open PySem PySem.Spec PyProof.Rows L2

/-! ## 5. operators on data -/
mutual
def D.py : D → Option PyData
  | .non => some .none
  | .bl b => some (.bool b)
  | .int i => some (.int i)
  | .str x => some (.str x)
  | .tup xs => (D.pys xs).map .tuple
  | .lst _ xs => (D.pys xs).map .list
  | .ro xs => (D.pys xs).map .list
  | .dct _ _ _ => none
  | .obj _ _ _ _ => none
def D.pys : List D → Option (List PyData)
  | [] => some []
  | d :: ds => (D.py d).bind fun p => (D.pys ds).bind fun ps => some (p :: ps)
end
section
variable {K : PySem.W.Frag} {cA : Nat → Addr} {F H : Hp}
mutual
theorem RepF.dp (e : Same F H) : ∀ (d : D) (v : V) (p : PyData), RepF K cA F d v → d.py = some p → Dp K H v p
  | .non, v, p, h, q => by cases (show v = _ from h); cases q; exact .non
  | .bl b, v, p, h, q => by cases (show v = _ from h); cases q; exact .bl b
  | .int i, v, p, h, q => by cases (show v = _ from h); cases q; exact .int i
  | .str x, v, p, h, q => by cases (show v = _ from h); cases q; exact .str x
  | .tup xs, v, p, h, q => by
    obtain ⟨a, vs, rfl, h2, h3⟩ := h
    obtain ⟨ps, q1, rfl⟩ := Option.map_eq_some_iff.mp q
    exact .tup (SqT_mono h2 e) (RepFs.dps e xs vs ps h3 q1)
  | .lst o xs, v, p, h, q => by
    obtain ⟨a, vs, rfl, h2, h3⟩ := h
    obtain ⟨ps, q1, rfl⟩ := Option.map_eq_some_iff.mp q
    exact .lst (.of (e _ _ h2)) (RepFs.dps e xs vs ps h3 q1)
  | .ro xs, v, p, h, q => by
    obtain ⟨a, vs, rfl, h2, h3⟩ := h
    obtain ⟨ps, q1, rfl⟩ := Option.map_eq_some_iff.mp q
    exact .lst (e.seq h2) (RepFs.dps e xs vs ps h3 q1)
  | .dct _ _ _, v, p, h, q => by cases q
  | .obj _ _ _ _, v, p, h, q => by cases q
theorem RepFs.dps (e : Same F H) : ∀ (ds : List D) (vs : List V) (ps : List PyData), RepFs K cA F ds vs → D.pys ds = some ps → DpAll K H vs ps
  | [], vs, ps, h, q => by
    cases (show vs = [] from h)
    cases q
    exact .nil
  | d :: ds, vs, ps, h, q => by
    obtain ⟨v, r, rfl, h2, h3⟩ := h
    obtain ⟨p, q1, q2⟩ := Option.bind_eq_some_iff.mp q
    obtain ⟨ps', q3, q4⟩ := Option.bind_eq_some_iff.mp q2
    cases q4
    exact .cons (RepF.dp e d v p h2 q1) (RepFs.dps e ds r ps' h3 q3)
end
theorem D.frz_py : ∀ d : D, d.frz.py = d.py
  | .non => rfl
  | .bl _ => rfl
  | .int _ => rfl
  | .str _ => rfl
  | .tup _ => rfl
  | .lst _ _ => by simp only [D.frz, D.py]
  | .ro _ => rfl
  | .dct _ _ _ => rfl
  | .obj _ _ _ _ => by simp only [D.frz, D.py]
variable {W : Gx} {fp : Nat → List Addr} {s : Sl} {σ : L2.St}
theorem Ep.dp {v : V} {ev : EV} {d : D} {p : PyData} (r : Rl K cA F W.P W.pn fp s σ H) (h : Ep K cA F σ v ev) (e : evR ev s = some d) (q : d.py = some p) : Dp K H v p := by
  cases d with
  | lst o xs =>
    obtain ⟨a, vs, rfl, h2, h3⟩ := Ep.list r h e
    obtain ⟨ps, q1, rfl⟩ := Option.map_eq_some_iff.mp q
    exact .lst (.of h2) (RepFs.dps r.fz xs vs ps h3 q1)
  | dct _ _ _ => cases q
  | obj _ _ _ _ => cases q
  | _ => exact RepF.dp r.fz _ v p (Ep.flat r h e rfl) q
end

/-- == of data -/
def eqD : D → D → Option Bool
  | .int a, .int b => some (decide (a = b))
  | .str a, .str b => some (decide (a = b))
  | .bl a, .bl b => some (decide (a = b))
  | d1, d2 => match d1.py, d2.py with
    | some p, some q => if p.canLay0 && q.canLay0 && Nat.ble (min p.depth q.depth) 128 then some (PyData.eqv p q) else none
    | _, _ => none
/-- scalars -/
def D.sc : D → Bool
  | .non => true
  | .bl _ => true
  | .int _ => true
  | .str _ => true
  | _ => false
def eqS : D → D → Bool
  | .non, .non => true
  | .bl a, .bl b => a == b
  | .bl a, .int b => (if a then 1 else 0) == b
  | .int a, .bl b => a == (if b then 1 else 0)
  | .int a, .int b => a == b
  | .str a, .str b => a == b
  | _, _ => false
def inL (d : D) (xs : List D) : Option Bool :=
  if d.sc && xs.all D.sc then some (xs.any fun y => eqS y d)
  else match d.py, D.pys xs with
    | some p, some qs => if p.canLay0 && PyData.canLayAll0 qs && Nat.ble (min (PyData.depthAll qs) p.depth) 128 then some (qs.any fun z => PyData.eqv z p) else none
    | _, _ => none
def inD (d : D) : D → Option Bool
  | .tup xs => inL d xs
  | .lst _ xs => inL d xs
  | .ro xs => inL d xs
  | .str z => match d with
    | .str x => match x.cps.toList with
      | [c] => some (decide (c ∈ z.cps.toList))
      | _ => none
    | _ => none
  | _ => none
def mulOk (i j : Int) : Bool := (decide (-(2 ^ 64) < j) && decide (j < 2 ^ 64)) || (decide (-(2 ^ 64) < i) && decide (i < 2 ^ 64))
def addD : D → D → Option D
  | .int a, .int b => some (.int (a + b))
  | .str a, .str b => if fits (a.length + b.length) then some (.str (a ++ b)) else none
  | .lst _ xs, .lst _ ys => if fits (xs.length + ys.length) then some (.lst true (xs ++ ys)) else none
  | .tup xs, .tup ys => if fits (xs.length + ys.length) then some (.tup (xs ++ ys)) else none
  | _, _ => none
def subD : D → D → Option D
  | .int a, .int b => some (.int (a - b))
  | _, _ => none
def mulD : D → D → Option D
  | .int a, .int b => if mulOk a b then some (.int (a * b)) else none
  | .lst _ xs, .int k => if decide (0 ≤ k) && decide (k ≤ 1000000) && fits (xs.length * k.toNat) then some (.lst true (List.replicate k.toNat xs).flatten) else none
  | _, _ => none
def modD : D → D → Option D
  | .int a, .int b => if decide (0 < b) then some (.int (a % b)) else none
  | _, _ => none
def divD : D → D → Option D
  | .int a, .int b => if decide (0 < b) && decide (b < 1073741824) then some (.int (a / b)) else none
  | _, _ => none
def powD : D → D → Option D
  | .int a, .int b => if decide (0 ≤ b) && decide (b ≤ 1000) && decide (a.natAbs < 2 ^ 64) then some (.int (a ^ b.toNat)) else none
  | _, _ => none
def binD : Operator → D → D → Option D
  | .Add => addD
  | .Sub => subD
  | .Mult => mulD
  | .Mod => modD
  | .FloorDiv => divD
  | .Pow => powD
  | _ => fun _ _ => none
def ordD (p : Int → Int → Bool) : D → D → Option Bool
  | .int a, .int b => some (p a b)
  | _, _ => none
def D.isNon : D → Bool
  | .non => true
  | _ => false
def isN : D → D → Option Bool
  | d, .non => some d.isNon
  | _, _ => none
def cmpB : CmpOp → D → D → Option Bool
  | .Eq => eqD
  | .NotEq => fun a b => (eqD a b).map (!·)
  | .Lt => ordD fun a b => decide (a < b)
  | .LtE => ordD fun a b => decide (a ≤ b)
  | .Gt => ordD fun a b => decide (b < a)
  | .GtE => ordD fun a b => decide (b ≤ a)
  | .In => inD
  | .NotIn => fun a b => (inD a b).map (!·)
  | .Is => isN
  | .IsNot => fun a b => (isN a b).map (!·)
def cmpD (o : CmpOp) (a b : D) : Option D := (cmpB o a b).map .bl

section
variable {X : Cx} {cA : Nat → Addr} {W : Gx} {e a b c : Expr} {f g : Sl → R EV} {pos : Pos}

/-- an operator's rule r serves op -/
def OpOk (X : Cx) (cA : Nat → Addr) (W : Gx) (op : D → D → Option D) (r : R2) : Prop :=
  ∀ (F : Hp) (fp : Nat → List Addr) (s : Sl) (σ : L2.St) (H : Hp) (e1 e2 : EV) (d1 d2 d : D) (x y : V) (Q : VK), Rl X.K cA F W.P W.pn fp s σ H → Ep X.K cA F σ x e1 → Ep X.K cA F σ y e2 → evR e1 s = some d1 → evR e2 s = some d2 → op d1 d2 = some d →
    KE X.K cA W F σ Q (.val d) s → r x y H Q
theorem Ke.fin {F H : Hp} {fp : Nat → List Addr} {s : Sl} {σ : L2.St} {Q : VK} {d : D} {v : V} (k : KE X.K cA W F σ Q (.val d) s) (r : Rl X.K cA F W.P W.pn fp s σ H) (ho : d.own = false) (q : RepF X.K cA F d v) : Q v H :=
  k v H F fp (Same.refl F) r (Ev.fro ho q)
theorem two_op {op : D → D → Option D} {r : R2} (ho : OpOk X cA W op r) {σ : L2.St} {H : Hp} {x y : V} {Q : VK} (h : Two X cA W (op2K op) (fun F => KE X.K cA W F σ Q) σ x y H) : r x y H Q := by
  obtain ⟨F, fp, s, e1, e2, rl, q1, q2, p⟩ := h
  unfold op2K at p
  split at p
  · rename_i d1 d2 h1 h2
    split at p
    · rename_i d hd
      exact ho F fp s σ H e1 e2 d1 d2 d x y Q rl q1 q2 h1 h2 hd p
    · exact p.elim
  · exact p.elim
theorem se_op2 {op : D → D → Option D} {o : Operator} {r : R2} (hr : OpR X (binaryOp o) r) (ho : OpOk X cA W op r) (ha : SE X cA W a f) (hb : SE X cA W b g) : SE X cA W (.BinOp a o b pos) (bin2 f g (op2K op)) := by
  refine PE_mono (pe_op hr ha hb) fun σ H Q h => ?_
  have z := bin_run (C := fun F => KE X.K cA W F σ Q) KE_mono h
  obtain ⟨F, fp, s, rl, p⟩ := z
  refine ⟨F, fp, s, rl, Po.up (Same.refl _) p fun ev s' _ z x H1 F' fp' g' r' q' => ?_⟩
  obtain ⟨F2, fp2, s2, r2, p2⟩ := z x H1 F' fp' g' r' q'
  exact ⟨F2, fp2, s2, r2, Po.up (Same.refl _) p2 fun ev s' _ z y H2 F' fp' g' r' q' => two_op ho (z y H2 F' fp' g' r' q')⟩
theorem int_of {F H : Hp} {fp : Nat → List Addr} {s : Sl} {σ : L2.St} {v : V} {ev : EV} {i : Int} (r : Rl X.K cA F W.P W.pn fp s σ H) (h : Ep X.K cA F σ v ev) (e : evR ev s = some (.int i)) : v = .int i := Ep.flat r h e rfl
theorem str_of {F H : Hp} {fp : Nat → List Addr} {s : Sl} {σ : L2.St} {v : V} {ev : EV} {i : Str} (r : Rl X.K cA F W.P W.pn fp s σ H) (h : Ep X.K cA F σ v ev) (e : evR ev s = some (.str i)) : v = .str i := Ep.flat r h e rfl
theorem bl_of {F H : Hp} {fp : Nat → List Addr} {s : Sl} {σ : L2.St} {v : V} {ev : EV} {i : Bool} (r : Rl X.K cA F W.P W.pn fp s σ H) (h : Ep X.K cA F σ v ev) (e : evR ev s = some (.bl i)) : v = .bl i := Ep.flat r h e rfl
/-- a new list as an operator's value -/
theorem Ke.list {F H : Hp} {fp : Nat → List Addr} {s : Sl} {σ : L2.St} {Q : VK} {ds : List D} {vs : List V} {p : Addr} (k : KE X.K cA W F σ Q (.val (.lst true ds)) s) (r : Rl X.K cA F W.P W.pn fp s σ H) (hp : H p = none) (q : RepFs X.K cA F ds vs) : Q (.ref p) (upd H p (.lst vs)) := by
  obtain ⟨r2, q2⟩ := new_list r hp q
  exact k _ _ F fp (Same.refl F) r2 q2
theorem Ke.tup {F H : Hp} {fp : Nat → List Addr} {s : Sl} {σ : L2.St} {Q : VK} {ds : List D} {vs : List V} {p : Addr} (k : KE X.K cA W F σ Q (.val (.tup ds)) s) (r : Rl X.K cA F W.P W.pn fp s σ H) (hp : H p = none) (q : RepFs X.K cA F ds vs) : Q (.ref p) (upd H p (.tup vs)) := by
  have e1 := same_upd (Same.free r.fz hp) (.tup vs)
  exact k _ _ _ fp e1 (r.newF hp (.tup vs)) (Ev.fro rfl ⟨p, vs, rfl, .of upd_same, q.mono e1⟩)

abbrev rAddS : R2 := fun x y H Q => ∃ i j, x = .str i ∧ y = .str j ∧ i.length + j.length ≤ sizeLine ∧ Q (.str (i ++ j)) H
def rAddA (K : PySem.W.Frag) : R2 := fun x y H Q => rI0 (fun i j => .int (i + j)) x y H Q ∨ rAddS x y H Q ∨ rCat x y H Q ∨ rCatA K x y H Q
theorem op_addA : OpR X (binaryOp .Add) (rAddA X.K) := op_add.or (op_add_str.or (op_cat.or op_catA))
theorem add_ok : OpOk X cA W addD (rAddA X.K) := by
  intro F fp s σ H e1 e2 d1 d2 d x y Q r q1 q2 h1 h2 hd k
  cases d1 <;> cases d2 <;> simp only [addD, reduceCtorEq] at hd
  · cases hd
    exact .inl ⟨_, _, int_of r q1 h1, int_of r q2 h2, Ke.fin k r rfl rfl⟩
  · split at hd
    · rename_i hf
      cases hd
      exact .inr (.inl ⟨_, _, str_of r q1 h1, str_of r q2 h2, Nat.le_trans (fits_le hf) LN_le, Ke.fin k r rfl rfl⟩)
    · cases hd
  · split at hd
    · rename_i hf
      cases hd
      obtain ⟨a, vs, rfl, m1, n1⟩ := Ep.flat r q1 h1 rfl
      obtain ⟨b, us, rfl, m2, n2⟩ := Ep.flat r q2 h2 rfl
      refine .inr (.inr (.inr ⟨a, b, vs, us, rfl, rfl, SqT_mono m1 r.fz, SqT_mono m2 r.fz, ?_, fun z => ?_, fun z1 z2 => ?_, fun _ _ p hp => ?_⟩))
      · rw [← n1.length, ← n2.length]
        exact Nat.le_trans (fits_le hf) LN_le
      · subst z
        have hl := n1.length
        rename_i xs ys
        have : xs = [] := List.eq_nil_of_length_eq_zero hl
        subst this
        exact Ke.fin k r rfl ⟨b, us, rfl, m2, n2⟩
      · subst z2
        have hl := n2.length
        rename_i xs ys
        have : ys = [] := List.eq_nil_of_length_eq_zero hl
        subst this
        rw [List.append_nil] at k
        exact Ke.fin k r rfl ⟨a, vs, rfl, m1, n1⟩
      · exact Ke.tup k r hp (n1.append n2)
    · cases hd
  · split at hd
    · rename_i hf
      cases hd
      obtain ⟨a, vs, rfl, m1, n1⟩ := Ep.list r q1 h1
      obtain ⟨b, us, rfl, m2, n2⟩ := Ep.list r q2 h2
      refine .inr (.inr (.inl ⟨a, b, vs, us, rfl, rfl, m1, m2, ?_, fun p hp => Ke.list k r hp (n1.append n2)⟩))
      rw [← n1.length, ← n2.length]
      exact Nat.le_trans (fits_le hf) LN_le
    · cases hd
theorem sub_ok : OpOk X cA W subD (rI0 fun i j => .int (i - j)) := by
  intro F fp s σ H e1 e2 d1 d2 d x y Q r q1 q2 h1 h2 hd k
  cases d1 <;> cases d2 <;> simp only [subD, reduceCtorEq] at hd
  cases hd
  exact ⟨_, _, int_of r q1 h1, int_of r q2 h2, Ke.fin k r rfl rfl⟩
theorem mod_ok : OpOk X cA W modD (rI (fun _ j => 0 < j) fun i j => .int (i % j)) := by
  intro F fp s σ H e1 e2 d1 d2 d x y Q r q1 q2 h1 h2 hd k
  cases d1 <;> cases d2 <;> simp only [modD, reduceCtorEq] at hd
  split at hd
  · rename_i hc
    cases hd
    exact ⟨_, _, int_of r q1 h1, int_of r q2 h2, of_decide_eq_true hc, Ke.fin k r rfl rfl⟩
  · cases hd
theorem div_ok : OpOk X cA W divD (rI CDiv fun i j => .int (i / j)) := by
  intro F fp s σ H e1 e2 d1 d2 d x y Q r q1 q2 h1 h2 hd k
  cases d1 <;> cases d2 <;> simp only [divD, reduceCtorEq] at hd
  split at hd
  · rename_i hc
    rw [Bool.and_eq_true] at hc
    cases hd
    exact ⟨_, _, int_of r q1 h1, int_of r q2 h2, ⟨of_decide_eq_true hc.1, of_decide_eq_true hc.2⟩, Ke.fin k r rfl rfl⟩
  · cases hd
theorem pow_ok : OpOk X cA W powD (rI CPow fun i j => .int (i ^ j.toNat)) := by
  intro F fp s σ H e1 e2 d1 d2 d x y Q r q1 q2 h1 h2 hd k
  cases d1 <;> cases d2 <;> simp only [powD, reduceCtorEq] at hd
  split at hd
  · rename_i hc
    rw [Bool.and_eq_true, Bool.and_eq_true] at hc
    cases hd
    have z := of_decide_eq_true hc.1.2
    exact ⟨_, _, int_of r q1 h1, int_of r q2 h2, ⟨of_decide_eq_true hc.1.1, by omega, of_decide_eq_true hc.2⟩, Ke.fin k r rfl rfl⟩
  · cases hd
def rMulA : R2 := fun x y H Q => rI CMul (fun i j => .int (i * j)) x y H Q ∨ rRep x y H Q
theorem op_mulA : OpR X (binaryOp .Mult) rMulA := op_mul.or op_rep
theorem RepFs.rep {F : Hp} {ds : List D} {vs : List V} (h : RepFs X.K cA F ds vs) : ∀ k : Nat, RepFs X.K cA F (List.replicate k ds).flatten (List.replicate k vs).flatten
  | 0 => rfl
  | k + 1 => by
    rw [List.replicate_succ, List.replicate_succ, List.flatten_cons, List.flatten_cons]
    exact h.append (RepFs.rep h k)
theorem mul_ok : OpOk X cA W mulD rMulA := by
  intro F fp s σ H e1 e2 d1 d2 d x y Q r q1 q2 h1 h2 hd k
  cases d1 <;> cases d2 <;> simp only [mulD, reduceCtorEq] at hd
  · split at hd
    · rename_i hc
      cases hd
      refine .inl ⟨_, _, int_of r q1 h1, int_of r q2 h2, ?_, Ke.fin k r rfl rfl⟩
      unfold mulOk at hc
      rw [Bool.or_eq_true, Bool.and_eq_true, Bool.and_eq_true] at hc
      rcases hc with hc | hc
      · exact .inr ⟨of_decide_eq_true hc.1, of_decide_eq_true hc.2⟩
      · exact .inl ⟨of_decide_eq_true hc.1, of_decide_eq_true hc.2⟩
    · cases hd
  · split at hd
    · rename_i hc
      rw [Bool.and_eq_true, Bool.and_eq_true] at hc
      cases hd
      obtain ⟨a, vs, rfl, m1, n1⟩ := Ep.list r q1 h1
      have z1 := of_decide_eq_true hc.1.1
      have z2 := of_decide_eq_true hc.1.2
      refine .inr ⟨a, _, vs, rfl, int_of r q2 h2, m1, by omega, by omega, ?_, fun p hp => Ke.list k r hp (RepFs.rep n1 _)⟩
      rw [← n1.length]
      exact Nat.le_trans (fits_le hc.2) LN_le
    · cases hd

/-! ### comparisons -/
theorem op_isA : OpR X (compareOp .Is) (fun x y H Q => y = .non ∧ Q (.bl (decide (x = .non))) H) := op_isN
def rEqM (K : PySem.W.Frag) (neg : Bool) : R2 := fun x y H Q => ∃ d e, Dp K H x d ∧ Dp K H y e ∧ d.canLay0 = true ∧ e.canLay0 = true ∧ min d.depth e.depth ≤ 128 ∧ Q (.bl (if neg then !PyData.eqv d e else PyData.eqv d e)) H
theorem op_eqM (hu : X.A.units + 130 < cLine) : OpR X (compareOp .Eq) (rEqM X.K false) := by
  intro pins s σ H x y v u Q I rx ry h
  obtain ⟨d, e, hd, he, sd, se, hm, q⟩ := h
  obtain ⟨as, r1⟩ := Dp.reads I d x v hd rx
  obtain ⟨bs, r2⟩ := Dp.reads I e y u he ry
  exact SeqAt.compareEq_reads r1 r2 sd se (by omega) ⟨.bl _, H, I, rfl, q⟩
theorem op_neM (hu : X.A.units + 130 < cLine) : OpR X (compareOp .NotEq) (rEqM X.K true) := by
  intro pins s σ H x y v u Q I rx ry h
  obtain ⟨d, e, hd, he, sd, se, hm, q⟩ := h
  obtain ⟨as, r1⟩ := Dp.reads I d x v hd rx
  obtain ⟨bs, r2⟩ := Dp.reads I e y u he ry
  exact SeqAt.compareNe_reads r1 r2 sd se (by omega) ⟨.bl _, H, I, rfl, q⟩
def rEqA (K : PySem.W.Frag) : R2 := fun x y H Q => rEq x y H Q ∨ rEqM K false x y H Q
def rNeA (K : PySem.W.Frag) : R2 := fun x y H Q => rNe x y H Q ∨ rEqM K true x y H Q
theorem op_eqA (hu : X.A.units + 130 < cLine) : OpR X (compareOp .Eq) (rEqA X.K) := op_eq.or (op_eqM hu)
theorem op_neA (hu : X.A.units + 130 < cLine) : OpR X (compareOp .NotEq) (rNeA X.K) := op_ne.or (op_neM hu)
/-- what eqD says -/
theorem eqD_cases {d1 d2 : D} {b : Bool} (h : eqD d1 d2 = some b) : (∃ i j, d1 = .int i ∧ d2 = .int j ∧ b = decide (i = j)) ∨ (∃ i j, d1 = .str i ∧ d2 = .str j ∧ b = decide (i = j)) ∨ (∃ i j, d1 = .bl i ∧ d2 = .bl j ∧ b = decide (i = j)) ∨
    ∃ p q, d1.py = some p ∧ d2.py = some q ∧ p.canLay0 = true ∧ q.canLay0 = true ∧ min p.depth q.depth ≤ 128 ∧ b = PyData.eqv p q := by
  unfold eqD at h
  split at h
  · cases h; exact .inl ⟨_, _, rfl, rfl, rfl⟩
  · cases h; exact .inr (.inl ⟨_, _, rfl, rfl, rfl⟩)
  · cases h; exact .inr (.inr (.inl ⟨_, _, rfl, rfl, rfl⟩))
  · split at h
    · rename_i p q hp hq
      split at h
      · rename_i hc
        rw [Bool.and_eq_true, Bool.and_eq_true] at hc
        cases h
        exact .inr (.inr (.inr ⟨p, q, hp, hq, hc.1.1, hc.1.2, Nat.le_of_ble_eq_true hc.2, rfl⟩))
      · cases h
    · cases h
theorem eq_ok : OpOk X cA W (cmpD .Eq) (rEqA X.K) := by
  intro F fp s σ H e1 e2 d1 d2 d x y Q r q1 q2 h1 h2 hd k
  obtain ⟨b, hb, rfl⟩ := Option.map_eq_some_iff.mp hd
  rcases eqD_cases hb with ⟨i, j, rfl, rfl, rfl⟩ | ⟨i, j, rfl, rfl, rfl⟩ | ⟨i, j, rfl, rfl, rfl⟩ | ⟨p, q, hp, hq, c1, c2, hm, rfl⟩
  · cases int_of r q1 h1
    cases int_of r q2 h2
    refine .inl ⟨rfl, ?_⟩
    rw [show decide (V.int i = V.int j) = decide (i = j) by simp]
    exact Ke.fin k r rfl rfl
  · cases str_of r q1 h1
    cases str_of r q2 h2
    refine .inl ⟨rfl, ?_⟩
    rw [show decide (V.str i = V.str j) = decide (i = j) by simp]
    exact Ke.fin k r rfl rfl
  · cases bl_of r q1 h1
    cases bl_of r q2 h2
    refine .inl ⟨rfl, ?_⟩
    rw [show decide (V.bl i = V.bl j) = decide (i = j) by simp]
    exact Ke.fin k r rfl rfl
  · exact .inr ⟨p, q, Ep.dp r q1 h1 hp, Ep.dp r q2 h2 hq, c1, c2, hm, Ke.fin k r rfl rfl⟩
theorem ne_ok : OpOk X cA W (cmpD .NotEq) (rNeA X.K) := by
  intro F fp s σ H e1 e2 d1 d2 d x y Q r q1 q2 h1 h2 hd k
  obtain ⟨b0, hb0, rfl⟩ := Option.map_eq_some_iff.mp hd
  obtain ⟨b, hb, rfl⟩ := Option.map_eq_some_iff.mp hb0
  rcases eqD_cases hb with ⟨i, j, rfl, rfl, rfl⟩ | ⟨i, j, rfl, rfl, rfl⟩ | ⟨i, j, rfl, rfl, rfl⟩ | ⟨p, q, hp, hq, c1, c2, hm, rfl⟩
  · cases int_of r q1 h1
    cases int_of r q2 h2
    refine .inl ⟨rfl, ?_⟩
    rw [show decide (V.int i = V.int j) = decide (i = j) by simp]
    exact Ke.fin k r rfl rfl
  · cases str_of r q1 h1
    cases str_of r q2 h2
    refine .inl ⟨rfl, ?_⟩
    rw [show decide (V.str i = V.str j) = decide (i = j) by simp]
    exact Ke.fin k r rfl rfl
  · cases bl_of r q1 h1
    cases bl_of r q2 h2
    refine .inl ⟨rfl, ?_⟩
    rw [show decide (V.bl i = V.bl j) = decide (i = j) by simp]
    exact Ke.fin k r rfl rfl
  · exact .inr ⟨p, q, Ep.dp r q1 h1 hp, Ep.dp r q2 h2 hq, c1, c2, hm, Ke.fin k r rfl rfl⟩
theorem ord_ok {o : CmpOp} {p : Int → Int → Bool} (h : ∀ a b, cmpB o a b = ordD p a b) : OpOk X cA W (cmpD o) (rI0 fun i j => .bl (p i j)) := by
  intro F fp s σ H e1 e2 d1 d2 d x y Q r q1 q2 h1 h2 hd k
  obtain ⟨b, hb, rfl⟩ := Option.map_eq_some_iff.mp hd
  rw [h] at hb
  cases d1 <;> cases d2 <;> simp only [ordD, reduceCtorEq] at hb
  cases hb
  exact ⟨_, _, int_of r q1 h1, int_of r q2 h2, Ke.fin k r rfl rfl⟩
theorem isN_cases {d1 d2 : D} {b : Bool} (h : isN d1 d2 = some b) : d2 = .non ∧ b = d1.isNon := by
  cases d2 <;> simp only [isN, reduceCtorEq] at h
  cases h
  exact ⟨rfl, rfl⟩
theorem non_iff {F H : Hp} {fp : Nat → List Addr} {s : Sl} {σ : L2.St} {v : V} {ev : EV} {d : D} (r : Rl X.K cA F W.P W.pn fp s σ H) (h : Ep X.K cA F σ v ev) (e : evR ev s = some d) : d.isNon = decide (v = .non) := by
  cases d with
  | non => cases (Ep.flat r h e rfl : v = _); rfl
  | bl b => cases (Ep.flat r h e rfl : v = _); rfl
  | int b => cases (Ep.flat r h e rfl : v = _); rfl
  | str b => cases (Ep.flat r h e rfl : v = _); rfl
  | tup xs => obtain ⟨a, vs, rfl, _⟩ := Ep.flat r h e rfl; rfl
  | ro xs => obtain ⟨a, vs, rfl, _⟩ := Ep.flat r h e rfl; rfl
  | lst o xs => obtain ⟨a, vs, rfl, _⟩ := Ep.list r h e; rfl
  | dct o ks xs => obtain ⟨a, vs, rfl, _⟩ := Ep.dict r h e; rfl
  | obj o c ks xs =>
    cases ev with
    | val d' =>
      simp only [evR, Option.some.injEq] at e
      cases d' <;> simp only [D.frz, reduceCtorEq] at e
      obtain ⟨⟨a, dx, vs, rfl, _⟩, _⟩ := h
      rfl
    | al i =>
      simp only [evR] at e
      split at e
      · rename_i d' hd
        simp only [Option.some.injEq] at e
        obtain ⟨u, hu, q⟩ := r.sl i _ hd
        have hv : σ[i]? = some (some v) := h
        rw [hv] at hu
        cases hu
        cases d' <;> simp only [D.frz, reduceCtorEq] at e
        rename_i o' c' ks' xs'
        cases o' with
        | true => obtain ⟨a, dx, vs, ls, rfl, _⟩ := q; rfl
        | false => obtain ⟨⟨a, dx, vs, rfl, _⟩, _⟩ := q; rfl
      · cases e
theorem is_ok : OpOk X cA W (cmpD .Is) (fun x y H Q => y = .non ∧ Q (.bl (decide (x = .non))) H) := by
  intro F fp s σ H e1 e2 d1 d2 d x y Q r q1 q2 h1 h2 hd k
  obtain ⟨b, hb, rfl⟩ := Option.map_eq_some_iff.mp hd
  obtain ⟨rfl, rfl⟩ := isN_cases hb
  refine ⟨Ep.flat r q2 h2 rfl, ?_⟩
  rw [← non_iff r q1 h1]
  exact Ke.fin k r rfl rfl
theorem isnot_ok : OpOk X cA W (cmpD .IsNot) (fun x y H Q => y = .non ∧ Q (.bl (!decide (x = .non))) H) := by
  intro F fp s σ H e1 e2 d1 d2 d x y Q r q1 q2 h1 h2 hd k
  obtain ⟨b0, hb0, rfl⟩ := Option.map_eq_some_iff.mp hd
  obtain ⟨b, hb, rfl⟩ := Option.map_eq_some_iff.mp hb0
  obtain ⟨rfl, rfl⟩ := isN_cases hb
  refine ⟨Ep.flat r q2 h2 rfl, ?_⟩
  rw [← non_iff r q1 h1]
  exact Ke.fin k r rfl rfl
/-- in: flat items, data, a sign of a text -/
def rInM (K : PySem.W.Frag) (neg : Bool) : R2 := fun x y H Q => ∃ d ds, Dp K H x d ∧ (Dp K H y (.list ds) ∨ Dp K H y (.tuple ds)) ∧ d.canLay0 = true ∧ PyData.canLayAll0 ds = true ∧ min (PyData.depthAll ds) d.depth ≤ 128 ∧
  Q (.bl (if neg then !(ds.any fun z => PyData.eqv z d) else ds.any fun z => PyData.eqv z d)) H
theorem op_inM (hu : X.A.units + 130 < cLine) : OpR X (compareOp .In) (rInM X.K false) := by
  intro pins s σ H x y v u Q I rx ry h
  obtain ⟨d, ds, hd, he, sd, se, hm, q⟩ := h
  obtain ⟨as, r1⟩ := Dp.reads I d x v hd rx
  rcases he with he | he
  · obtain ⟨bs, r2⟩ := Dp.reads I _ y u he ry
    exact SeqAt.in_list_reads r2 r1 se sd (by omega) ⟨.bl _, H, I, rfl, q⟩
  · obtain ⟨bs, r2⟩ := Dp.reads I _ y u he ry
    exact SeqAt.in_tuple_reads r2 r1 se sd (by omega) ⟨.bl _, H, I, rfl, q⟩
theorem op_notInM (hu : X.A.units + 130 < cLine) : OpR X (compareOp .NotIn) (rInM X.K true) := by
  intro pins s σ H x y v u Q I rx ry h
  obtain ⟨d, ds, hd, he, sd, se, hm, q⟩ := h
  obtain ⟨as, r1⟩ := Dp.reads I d x v hd rx
  rcases he with he | he
  · obtain ⟨bs, r2⟩ := Dp.reads I _ y u he ry
    exact SeqAt.notIn_list_reads r2 r1 se sd (by omega) ⟨.bl _, H, I, rfl, q⟩
  · obtain ⟨bs, r2⟩ := Dp.reads I _ y u he ry
    exact SeqAt.notIn_tuple_reads r2 r1 se sd (by omega) ⟨.bl _, H, I, rfl, q⟩
def rSign (neg : Bool) : R2 := fun x y H Q => ∃ (c : Nat) (z : Str), x = .str ⟨#[c]⟩ ∧ y = .str z ∧ Q (.bl (if neg then !decide (c ∈ z.cps.toList) else decide (c ∈ z.cps.toList))) H
def rInA (K : PySem.W.Frag) (neg : Bool) : R2 := fun x y H Q => rIn K neg x y H Q ∨ rInM K neg x y H Q ∨ rSign neg x y H Q
theorem op_inA (hu : X.A.units + 130 < cLine) : OpR X (compareOp .In) (rInA X.K false) := op_in_seq.or ((op_inM hu).or op_in_sign)
theorem op_notInA (hu : X.A.units + 130 < cLine) : OpR X (compareOp .NotIn) (rInA X.K true) := op_notIn_seq.or ((op_notInM hu).or op_notIn_sign)
theorem sc_flat {F : Hp} {d : D} {v : V} (h : RepF X.K cA F d v) (s : d.sc = true) : flatV v = true := by
  cases d with
  | non => cases (show v = _ from h); rfl
  | bl b => cases (show v = _ from h); rfl
  | int b => cases (show v = _ from h); rfl
  | str b => cases (show v = _ from h); rfl
  | _ => cases s
theorem sc_eq {F : Hp} {d d' : D} {v v' : V} (h : RepF X.K cA F d v) (h' : RepF X.K cA F d' v') (s : d.sc = true) (s' : d'.sc = true) : eqV v v' = eqS d d' := by
  cases d with
  | non => cases (show v = _ from h); cases d' <;> first | (cases s'; done) | (cases (show v' = _ from h'); rfl)
  | bl b => cases (show v = _ from h); cases d' <;> first | (cases s'; done) | (cases (show v' = _ from h'); rfl)
  | int b => cases (show v = _ from h); cases d' <;> first | (cases s'; done) | (cases (show v' = _ from h'); rfl)
  | str b => cases (show v = _ from h); cases d' <;> first | (cases s'; done) | (cases (show v' = _ from h'); rfl)
  | _ => cases s
theorem scs_flat {F : Hp} : ∀ {ds : List D} {vs : List V}, RepFs X.K cA F ds vs → ds.all D.sc = true → vs.all flatV = true
  | [], vs, h, _ => by cases (show vs = [] from h); rfl
  | d :: ds, vs, h, s => by
    obtain ⟨v, r, rfl, h2, h3⟩ := h
    rw [List.all_cons, Bool.and_eq_true] at s ⊢
    exact ⟨sc_flat h2 s.1, scs_flat h3 s.2⟩
theorem scs_in {F : Hp} {d : D} {v : V} (hv : RepF X.K cA F d v) (sv : d.sc = true) : ∀ {ds : List D} {vs : List V}, RepFs X.K cA F ds vs → ds.all D.sc = true → inV v vs = ds.any fun y => eqS y d
  | [], vs, h, _ => by cases (show vs = [] from h); rfl
  | e :: ds, vs, h, s => by
    obtain ⟨u, r, rfl, h2, h3⟩ := h
    rw [List.all_cons, Bool.and_eq_true] at s
    have ih := scs_in hv sv h3 s.2
    unfold inV at ih ⊢
    rw [List.any_cons, List.any_cons, sc_eq h2 hv s.1 sv, ih]
theorem in_gen {F H : Hp} {fp : Nat → List Addr} {s : Sl} {σ : L2.St} {e1 : EV} {d1 : D} {xs : List D} {x y : V} {b neg : Bool} {Q : VK} (r : Rl X.K cA F W.P W.pn fp s σ H) (q1 : Ep X.K cA F σ x e1) (h1 : evR e1 s = some d1) (hl : inL d1 xs = some b)
    (hy : ∃ (a : Addr) (vs : List V), y = .ref a ∧ (SqL X.K H a vs ∨ SqT X.K H a vs) ∧ RepFs X.K cA F xs vs) (k : KE X.K cA W F σ Q (.val (.bl (if neg then !b else b))) s) : rInA X.K neg x y H Q := by
  obtain ⟨a, vs, rfl, hs, n⟩ := hy
  unfold inL at hl
  split at hl
  · rename_i hc
    rw [Bool.and_eq_true] at hc
    cases hl
    have hx : RepF X.K cA F d1 x := by cases d1 <;> first | exact Ep.flat r q1 h1 rfl | (cases hc.1; done)
    refine .inl ⟨a, vs, rfl, hs, sc_flat hx hc.1, scs_flat n hc.2, ?_⟩
    rw [scs_in hx hc.1 n hc.2]
    exact Ke.fin k r rfl rfl
  · split at hl
    · rename_i p qs hp hq
      split at hl
      · rename_i hc
        rw [Bool.and_eq_true, Bool.and_eq_true] at hc
        cases hl
        have z := RepFs.dps r.fz _ _ _ n hq
        refine .inr (.inl ⟨p, qs, Ep.dp r q1 h1 hp, ?_, hc.1.1, hc.1.2, Nat.le_of_ble_eq_true hc.2, Ke.fin k r rfl rfl⟩)
        rcases hs with hs | hs
        · exact .inl (.lst hs z)
        · exact .inr (.tup hs z)
      · cases hl
    · cases hl
theorem inA_gen {F H : Hp} {fp : Nat → List Addr} {s : Sl} {σ : L2.St} {e1 e2 : EV} {d1 d2 : D} {x y : V} {b neg : Bool} {Q : VK} (r : Rl X.K cA F W.P W.pn fp s σ H) (q1 : Ep X.K cA F σ x e1) (q2 : Ep X.K cA F σ y e2) (h1 : evR e1 s = some d1) (h2 : evR e2 s = some d2) (hl : inD d1 d2 = some b)
    (k : KE X.K cA W F σ Q (.val (.bl (if neg then !b else b))) s) : rInA X.K neg x y H Q := by
  cases d2 with
  | tup xs =>
    obtain ⟨a, vs, rfl, m, n⟩ := Ep.flat r q2 h2 rfl
    exact in_gen r q1 h1 hl ⟨a, vs, rfl, .inr (SqT_mono m r.fz), n⟩ k
  | ro xs =>
    obtain ⟨a, vs, rfl, m, n⟩ := Ep.flat r q2 h2 rfl
    exact in_gen r q1 h1 hl ⟨a, vs, rfl, .inl (r.fz.seq m), n⟩ k
  | lst o xs =>
    obtain ⟨a, vs, rfl, m, n⟩ := Ep.list r q2 h2
    exact in_gen r q1 h1 hl ⟨a, vs, rfl, .inl (.of m), n⟩ k
  | str z =>
    cases str_of r q2 h2
    cases d1 <;> simp only [inD, reduceCtorEq] at hl
    rename_i w
    split at hl
    · rename_i c hc
      cases hl
      cases str_of r q1 h1
      have e : w = ⟨#[c]⟩ := by
        obtain ⟨ws⟩ := w
        have : ws = #[c] := by
          have hc : ws.toList = [c] := hc
          rw [← Array.toArray_toList (xs := ws), hc]
        rw [this]
      rw [e]
      exact .inr (.inr ⟨c, z, rfl, rfl, Ke.fin k r rfl rfl⟩)
    · cases hl
  | _ => simp only [inD, reduceCtorEq] at hl
theorem in_ok : OpOk X cA W (cmpD .In) (rInA X.K false) := by
  intro F fp s σ H e1 e2 d1 d2 d x y Q r q1 q2 h1 h2 hd k
  obtain ⟨b, hb, rfl⟩ := Option.map_eq_some_iff.mp hd
  exact inA_gen (neg := false) r q1 q2 h1 h2 hb k
theorem notIn_ok : OpOk X cA W (cmpD .NotIn) (rInA X.K true) := by
  intro F fp s σ H e1 e2 d1 d2 d x y Q r q1 q2 h1 h2 hd k
  obtain ⟨b0, hb0, rfl⟩ := Option.map_eq_some_iff.mp hd
  obtain ⟨b, hb, rfl⟩ := Option.map_eq_some_iff.mp hb0
  exact inA_gen (neg := true) r q1 q2 h1 h2 hb k

/-- every binary operator -/
def rBin (K : PySem.W.Frag) : Operator → R2
  | .Add => rAddA K
  | .Sub => rI0 fun i j => .int (i - j)
  | .Mult => rMulA
  | .Mod => rI (fun _ j => 0 < j) fun i j => .int (i % j)
  | .FloorDiv => rI CDiv fun i j => .int (i / j)
  | .Pow => rI CPow fun i j => .int (i ^ j.toNat)
  | _ => fun _ _ _ _ => False
theorem op_bin : ∀ o : Operator, OpR X (binaryOp o) (rBin X.K o)
  | .Add => op_addA
  | .Sub => op_sub
  | .Mult => op_mulA
  | .Mod => op_mod
  | .FloorDiv => op_fdiv
  | .Pow => op_pow
  | .MatMult => fun _ _ _ _ _ _ _ _ _ _ _ _ h => h.elim
  | .Div => fun _ _ _ _ _ _ _ _ _ _ _ _ h => h.elim
  | .LShift => fun _ _ _ _ _ _ _ _ _ _ _ _ h => h.elim
  | .RShift => fun _ _ _ _ _ _ _ _ _ _ _ _ h => h.elim
  | .BitOr => fun _ _ _ _ _ _ _ _ _ _ _ _ h => h.elim
  | .BitXor => fun _ _ _ _ _ _ _ _ _ _ _ _ h => h.elim
  | .BitAnd => fun _ _ _ _ _ _ _ _ _ _ _ _ h => h.elim
theorem bin_ok : ∀ o : Operator, OpOk X cA W (binD o) (rBin X.K o)
  | .Add => add_ok
  | .Sub => sub_ok
  | .Mult => mul_ok
  | .Mod => mod_ok
  | .FloorDiv => div_ok
  | .Pow => pow_ok
  | .MatMult => fun _ _ _ _ _ _ _ _ _ _ _ _ _ _ _ _ _ _ h _ => by cases h
  | .Div => fun _ _ _ _ _ _ _ _ _ _ _ _ _ _ _ _ _ _ h _ => by cases h
  | .LShift => fun _ _ _ _ _ _ _ _ _ _ _ _ _ _ _ _ _ _ h _ => by cases h
  | .RShift => fun _ _ _ _ _ _ _ _ _ _ _ _ _ _ _ _ _ _ h _ => by cases h
  | .BitOr => fun _ _ _ _ _ _ _ _ _ _ _ _ _ _ _ _ _ _ h _ => by cases h
  | .BitXor => fun _ _ _ _ _ _ _ _ _ _ _ _ _ _ _ _ _ _ h _ => by cases h
  | .BitAnd => fun _ _ _ _ _ _ _ _ _ _ _ _ _ _ _ _ _ _ h _ => by cases h
theorem se_bin {o : Operator} (ha : SE X cA W a f) (hb : SE X cA W b g) : SE X cA W (.BinOp a o b pos) (bin2 f g (op2K (binD o))) := se_op2 (op_bin o) (bin_ok o) ha hb
def rCmp (K : PySem.W.Frag) : CmpOp → R2
  | .Eq => rEqA K
  | .NotEq => rNeA K
  | .Lt => rI0 fun i j => .bl (decide (i < j))
  | .LtE => rI0 fun i j => .bl (decide (i ≤ j))
  | .Gt => rI0 fun i j => .bl (decide (j < i))
  | .GtE => rI0 fun i j => .bl (decide (j ≤ i))
  | .In => rInA K false
  | .NotIn => rInA K true
  | .Is => fun x y H Q => y = .non ∧ Q (.bl (decide (x = .non))) H
  | .IsNot => fun x y H Q => y = .non ∧ Q (.bl (!decide (x = .non))) H
theorem op_cmp (hu : X.A.units + 130 < cLine) : ∀ o : CmpOp, OpR X (compareOp o) (rCmp X.K o)
  | .Eq => op_eqA hu
  | .NotEq => op_neA hu
  | .Lt => op_lt
  | .LtE => op_le
  | .Gt => op_gt
  | .GtE => op_ge
  | .In => op_inA hu
  | .NotIn => op_notInA hu
  | .Is => op_isN
  | .IsNot => op_notN
theorem cmp_ok : ∀ o : CmpOp, OpOk X cA W (cmpD o) (rCmp X.K o)
  | .Eq => eq_ok
  | .NotEq => ne_ok
  | .Lt => ord_ok fun _ _ => rfl
  | .LtE => ord_ok fun _ _ => rfl
  | .Gt => ord_ok fun _ _ => rfl
  | .GtE => ord_ok fun _ _ => rfl
  | .In => in_ok
  | .NotIn => notIn_ok
  | .Is => is_ok
  | .IsNot => isnot_ok
end
end NS
namespace NS
open PySem PySem.Spec PyProof.Rows L2

/-! ## 6. comparisons, subscripts, built-in calls -/
def cmpK (o : CmpOp) (e1 e2 : EV) (s : Sl) : R Bool := match evR e1 s, evR e2 s with
  | some d1, some d2 => match cmpB o d1 d2 with
    | some b => .ok b s
    | none => .no
  | _, _ => .no
def cmpT (o : CmpOp) (f g : Sl → R EV) : Sl → R Bool := bin2 f g (cmpK o)
def chainT (o o' : CmpOp) (f g h : Sl → R EV) : Sl → R Bool := bin2 f g fun e1 e2 s => (cmpK o e1 e2 s).bind fun b s1 => if b then penE h (fun e3 s3 => cmpK o' e2 e3 s3) s1 else .ok false s1
def valB (f : Sl → R Bool) : Sl → R EV := fun s => (f s).bind fun b s1 => .ok (.val (.bl b)) s1

section
variable {X : Cx} {cA : Nat → Addr} {W : Gx} {e a b c : Expr} {es : List Expr} {f g h : Sl → R EV} {pos : Pos}

theorem two_cmp {β : Type} {o : CmpOp} {kk : EV → EV → Bool → Sl → R β} {C : Hp → β → Sl → Prop} {σ : L2.St} {H : Hp} {x y : V} {Q : VK} (mono : ∀ F F' b s, Same F F' → C F b s → C F' b s)
    (h : Two X cA W (fun e1 e2 s => (cmpK o e1 e2 s).bind (kk e1 e2)) C σ x y H)
    (fin : ∀ b F fp s e1 e2 H', Rl X.K cA F W.P W.pn fp s σ H' → Ep X.K cA F σ x e1 → Ep X.K cA F σ y e2 → Po X.K cA W F σ (kk e1 e2 b s) (C F) → Q (.bl b) H') : rCmp X.K o x y H Q := by
  obtain ⟨F, fp, s, e1, e2, rl, q1, q2, p⟩ := h
  change Po X.K cA W F σ ((cmpK o e1 e2 s).bind (kk e1 e2)) (C F) at p
  unfold cmpK at p
  split at p
  · rename_i d1 d2 h1 h2
    split at p
    · rename_i b hb
      refine cmp_ok o F fp s σ H e1 e2 d1 d2 (.bl b) x y Q rl q1 q2 h1 h2 (by rw [cmpD, hb]; rfl) fun v H' F' fp' g' r' z => ?_
      cases Ev.bl z
      exact fin b F' fp' s e1 e2 H' r' (q1.mono g') (q2.mono g') (Po.up g' p fun b s' _ z => mono _ _ _ _ g' z)
    · exact p.elim
  · exact p.elim
theorem bind_ok {α : Type} (r : R α) : r.bind (fun a s => .ok a s) = r := by cases r <;> rfl
theorem cmpT_eq (o : CmpOp) (f g : Sl → R EV) : cmpT o f g = bin2 f g (fun e1 e2 s => (cmpK o e1 e2 s).bind fun b s => .ok b s) := by
  unfold cmpT
  congr 1
  funext e1 e2 s
  rw [bind_ok]
theorem st_cmp {o : CmpOp} (hu : X.A.units + 130 < cLine) (ha : SE X cA W a f) (hb : SE X cA W b g) (hs : notSet b = true) : ST X cA W (.Compare a [o] [b] pos) (cmpT o f g) := by
  refine PT_mono (pt_cmpR (op_cmp hu o) ha hb (behind_no hs)) fun σ H Q h => ?_
  rw [cmpT_eq] at h
  have z := bin_run (C := fun F => KT X.K cA W F σ Q) KT_mono h
  obtain ⟨F, fp, s, rl, p⟩ := z
  refine ⟨F, fp, s, rl, Po.up (Same.refl _) p fun ev s' _ z x H1 F' fp' g' r' q' => ?_⟩
  obtain ⟨F2, fp2, s2, r2, p2⟩ := z x H1 F' fp' g' r' q'
  refine ⟨F2, fp2, s2, r2, Po.up (Same.refl _) p2 fun ev s' _ z y H2 F' fp' g' r' q' => ?_⟩
  exact two_cmp KT_mono (z y H2 F' fp' g' r' q') fun b F fp s e1 e2 H' r q1 q2 p => ⟨b, rfl, p H' F fp (Same.refl F) r⟩
theorem valB_cmp (o : CmpOp) (f g : Sl → R EV) : valB (cmpT o f g) = bin2 f g (fun e1 e2 s => (cmpK o e1 e2 s).bind fun b s => .ok (.val (.bl b)) s) := by
  funext s
  unfold valB cmpT bin2 penE
  cases h1 : f s with
  | ok a1 s1 =>
    simp only [R.bind]
    cases h2 : g s1 with
    | ok a2 s2 => rfl
    | ex x s2 => rfl
    | no => rfl
  | ex x s1 => rfl
  | no => rfl
theorem se_cmp {o : CmpOp} (hu : X.A.units + 130 < cLine) (ha : SE X cA W a f) (hb : SE X cA W b g) (hs : notSet b = true) : SE X cA W (.Compare a [o] [b] pos) (valB (cmpT o f g)) := by
  refine PE_mono (pe_cmpR (op_cmp hu o) ha hb (behind_no hs)) fun σ H Q h => ?_
  rw [valB_cmp] at h
  have z := bin_run (C := fun F => KE X.K cA W F σ Q) KE_mono h
  obtain ⟨F, fp, s, rl, p⟩ := z
  refine ⟨F, fp, s, rl, Po.up (Same.refl _) p fun ev s' _ z x H1 F' fp' g' r' q' => ?_⟩
  obtain ⟨F2, fp2, s2, r2, p2⟩ := z x H1 F' fp' g' r' q'
  refine ⟨F2, fp2, s2, r2, Po.up (Same.refl _) p2 fun ev s' _ z y H2 F' fp' g' r' q' => ?_⟩
  exact two_cmp KE_mono (z y H2 F' fp' g' r' q') fun b F fp s e1 e2 H' r q1 q2 p => p _ H' F fp (Same.refl F) r (Ev.fro rfl rfl)
theorem last_no {o o' : CmpOp} (h2 : notSet c = true) : lastMarks [o, o'] [b, c] = false := by
  show lastMarks [o'] [c] = false
  exact behind_no h2
/-- a chain's end, for a test or a value -/
theorem chain_fin {β : Type} {o o' : CmpOp} {σ : L2.St} {H1 : Hp} {C : Hp → β → Sl → Prop} {kk : Bool → Sl → R β} {x y : V} {Q : VK} (mono : ∀ F F' b s, Same F F' → C F b s → C F' b s)
    (hC : ∀ b F fp s H', Rl X.K cA F W.P W.pn fp s σ H' → Po X.K cA W F σ (kk b s) (C F) → Q (.bl b) H')
    (z : Two X cA W (fun e1 e2 s => (cmpK o e1 e2 s).bind fun b s1 => (if b then penE h (fun e3 s3 => cmpK o' e2 e3 s3) s1 else .ok false s1).bind kk) C σ x y H1) :
    rCmp X.K o x y H1 fun z H3 => ∃ k, z = .bl k ∧ (if k = true then tE X.K cA W h σ H3 fun w' H4 => rCmp X.K o' y w' H4 Q else Q (.bl false) H3) := by
  refine two_cmp (kk := fun e1 e2 b s1 => (if b then penE h (fun e3 s3 => cmpK o' e2 e3 s3) s1 else .ok false s1).bind kk) mono z fun b F fp s e1 e2 H' r q1 q2 p => ⟨b, rfl, ?_⟩
  cases b with
  | false => exact iteF (hC false F fp s H' r p)
  | true =>
    refine iteT ?_
    have p' : Po X.K cA W F σ (penE h (fun e3 s3 => (cmpK o' e2 e3 s3).bind kk) s) (C F) := by
      have e : penE h (fun e3 s3 => (cmpK o' e2 e3 s3).bind kk) s = (penE h (fun e3 s3 => cmpK o' e2 e3 s3) s).bind kk := by
        unfold penE
        cases h s <;> rfl
      rw [e]
      exact p
    have z := pen_run (C := C) mono r p'
    obtain ⟨F0, fp0, s0, r0, p0⟩ := z
    refine ⟨F0, fp0, s0, r0, Po.up (Same.refl _) p0 fun ev s' _ z w H2 F' fp' g' r' q' => ?_⟩
    obtain ⟨F3, fp3, s3, e3, r3, q3, g3, p3⟩ := z w H2 F' fp' g' r' q'
    exact two_cmp (kk := fun _ _ => kk) mono ⟨F3, fp3, s3, e2, e3, r3, q2.mono g3, q3, p3⟩ fun b F fp s e1 e2 H' r q1 q2 p => hC b F fp s H' r p
theorem chain_bind {β : Type} {o o' : CmpOp} (kk : Bool → Sl → R β) (s : Sl) : (chainT o o' f g h s).bind kk = bin2 f g (fun e1 e2 s => (cmpK o e1 e2 s).bind fun b s1 => (if b then penE h (fun e3 s3 => cmpK o' e2 e3 s3) s1 else .ok false s1).bind kk) s := by
  unfold chainT bin2 penE
  cases f s with
  | ok a1 s1 =>
    simp only [R.bind]
    cases g s1 with
    | ok a2 s2 =>
      simp only [R.bind]
      cases cmpK o a1.pend a2.pend s2 with
      | ok b s3 => cases b <;> rfl
      | ex x s3 => rfl
      | no => rfl
    | ex x s2 => rfl
    | no => rfl
  | ex x s1 => rfl
  | no => rfl
theorem se_chain {o o' : CmpOp} (hu : X.A.units + 130 < cLine) (ha : SE X cA W a f) (hb : SE X cA W b g) (hc : SE X cA W c h) (hs : notSet c = true) : SE X cA W (.Compare a [o, o'] [b, c] pos) (valB (chainT o o' f g h)) := by
  refine PE_mono (pe_chain (op_cmp hu o) (op_cmp hu o') ha hb hc (last_no hs)) fun σ H Q hh => ?_
  obtain ⟨F, fp, s, rl, p⟩ := hh
  have p : Po X.K cA W F σ ((chainT o o' f g h s).bind fun b s1 => .ok (.val (.bl b)) s1) (KE X.K cA W F σ Q) := p
  rw [chain_bind] at p
  have z := bin_run (C := fun F => KE X.K cA W F σ Q) KE_mono ⟨F, fp, s, rl, p⟩
  obtain ⟨F, fp, s, rl, p⟩ := z
  refine ⟨F, fp, s, rl, Po.up (Same.refl _) p fun ev s' _ z x H1 F' fp' g' r' q' => ?_⟩
  obtain ⟨F2, fp2, s2, r2, p2⟩ := z x H1 F' fp' g' r' q'
  refine ⟨F2, fp2, s2, r2, Po.up (Same.refl _) p2 fun ev s' _ z y H2 F' fp' g' r' q' => ?_⟩
  exact chain_fin (C := fun F => KE X.K cA W F σ Q) (kk := fun b s1 => .ok (.val (.bl b)) s1) KE_mono (fun b F fp s H' r p => p _ H' F fp (Same.refl F) r (Ev.fro rfl rfl)) (z y H2 F' fp' g' r' q')
theorem st_chain {o o' : CmpOp} (hu : X.A.units + 130 < cLine) (ha : SE X cA W a f) (hb : SE X cA W b g) (hc : SE X cA W c h) (hs : notSet c = true) : ST X cA W (.Compare a [o, o'] [b, c] pos) (chainT o o' f g h) := by
  refine PT_mono (pt_chain (op_cmp hu o) (op_cmp hu o') ha hb hc (last_no hs)) fun σ H Q hh => ?_
  obtain ⟨F, fp, s, rl, p⟩ := hh
  rw [← bind_ok (chainT o o' f g h s), chain_bind] at p
  have z := bin_run (C := fun F => KT X.K cA W F σ Q) KT_mono ⟨F, fp, s, rl, p⟩
  obtain ⟨F, fp, s, rl, p⟩ := z
  refine ⟨F, fp, s, rl, Po.up (Same.refl _) p fun ev s' _ z x H1 F' fp' g' r' q' => ?_⟩
  obtain ⟨F2, fp2, s2, r2, p2⟩ := z x H1 F' fp' g' r' q'
  refine ⟨F2, fp2, s2, r2, Po.up (Same.refl _) p2 fun ev s' _ z y H2 F' fp' g' r' q' => ?_⟩
  exact chain_fin (C := fun F => KT X.K cA W F σ Q) (kk := fun b s1 => .ok b s1) (Q := fun x H' => ∃ k, x = .bl k ∧ Q k H') KT_mono (fun b F fp s H' r p => ⟨b, rfl, p H' F fp (Same.refl F) r⟩) (z y H2 F' fp' g' r' q')

/-! ### one operand -/
def negD : D → Option D
  | .int i => some (.int (-i))
  | _ => none
theorem se_neg (ha : SE X cA W a f) : SE X cA W (.UnaryOp .USub a pos) (penE f (op1K negD)) := by
  refine PE_mono (pe_un un_neg ha) fun σ H Q h => ?_
  have z := one_run (C := fun F => KE X.K cA W F σ Q) KE_mono h
  obtain ⟨F, fp, s, rl, p⟩ := z
  refine ⟨F, fp, s, rl, Po.up (Same.refl _) p fun ev s' _ z x H1 F' fp' g' r' q' => ?_⟩
  obtain ⟨F1, fp1, s1, e1, r1, q1, p1⟩ := z x H1 F' fp' g' r' q'
  unfold op1K at p1
  split at p1
  · rename_i d1 h1
    cases d1 <;> simp only [negD] at p1 <;> first | exact p1.elim | skip
    exact ⟨_, int_of r1 q1 h1, Ke.fin p1 r1 rfl rfl⟩
  · exact p1.elim

/-! ### subscripts -/
def ixD : D → D → Option D
  | .tup xs, .int i => atI xs i
  | .lst _ xs, .int i => atI xs i
  | .ro xs, .int i => atI xs i
  | .str z, .int i => if fits z.length then (atI z.cps.toList i).map fun c => .str ⟨#[c]⟩ else none
  | _, _ => none
/-- an item of a container is shared data -/
def ixK (e1 e2 : EV) (s : Sl) : R EV := match evR e1 s, evR e2 s with
  | some d1, some d2 => match ixD d1 d2 with
    | some d => if d.own then .no else .ok (.val d) s
    | none => .no
  | _, _ => .no
theorem RepFs.atI {F : Hp} {ds : List D} {vs : List V} {i : Int} {d : D} (h : RepFs X.K cA F ds vs) (e : atI ds i = some d) : ∃ v, L2.atI vs i = some v ∧ RepF X.K cA F d v := by
  have e : (ixN ds.length i).bind (fun j => ds[j]?) = some d := e
  obtain ⟨j, e1, e2⟩ := Option.bind_eq_some_iff.mp e
  obtain ⟨v, e3, q⟩ := h.get e2
  refine ⟨v, ?_, q⟩
  show (ixN vs.length i).bind (fun j => vs[j]?) = some v
  rw [← h.length, e1]
  exact e3
theorem se_ix (ha : SE X cA W a f) (hb : SE X cA W b g) (hs : notSlice b = true) : SE X cA W (.Subscript a b pos) (bin2 f g ixK) := by
  refine PE_mono (pe_ix ix_seq ha hb (plainIx hs)) fun σ H Q h => ?_
  have z := bin_run (C := fun F => KE X.K cA W F σ Q) KE_mono h
  obtain ⟨F, fp, s, rl, p⟩ := z
  refine ⟨F, fp, s, rl, Po.up (Same.refl _) p fun ev s' _ z x H1 F' fp' g' r' q' => ?_⟩
  obtain ⟨F2, fp2, s2, r2, p2⟩ := z x H1 F' fp' g' r' q'
  refine ⟨F2, fp2, s2, r2, Po.up (Same.refl _) p2 fun ev s' _ z y H2 F' fp' g' r' q' => ?_⟩
  obtain ⟨F, fp, s, e1, e2, r, q1, q2, p⟩ := z y H2 F' fp' g' r' q'
  unfold ixK at p
  split at p
  · rename_i d1 d2 h1 h2
    split at p
    · rename_i d hd
      split at p
      · exact p.elim
      · rename_i ho
        have ho : d.own = false := by simpa using ho
        cases d1 <;> cases d2 <;> simp only [ixD, reduceCtorEq] at hd
        · rename_i z i
          split at hd
          · rename_i hf
            obtain ⟨c, hc, rfl⟩ := Option.map_eq_some_iff.mp hd
            exact .inr (.inr ⟨z, i, c, str_of r q1 h1, int_of r q2 h2, Nat.le_trans (fits_le hf) LN_le, hc, Ke.fin p r rfl rfl⟩)
          · cases hd
        · obtain ⟨a, vs, rfl, m1, n1⟩ := Ep.flat r q1 h1 rfl
          obtain ⟨v, hv, q⟩ := n1.atI hd
          exact .inr (.inl ⟨a, vs, _, v, rfl, int_of r q2 h2, SqT_mono m1 r.fz, hv, Ke.fin p r ho q⟩)
        · obtain ⟨a, vs, rfl, m1, n1⟩ := Ep.list r q1 h1
          obtain ⟨v, hv, q⟩ := n1.atI hd
          exact .inl ⟨a, vs, _, v, rfl, int_of r q2 h2, .of m1, hv, Ke.fin p r ho q⟩
        · obtain ⟨a, vs, rfl, m1, n1⟩ := Ep.flat r q1 h1 rfl
          obtain ⟨v, hv, q⟩ := n1.atI hd
          exact .inl ⟨a, vs, _, v, rfl, int_of r q2 h2, r.fz.seq m1, hv, Ke.fin p r ho q⟩
    · exact p.elim
  · exact p.elim

/-! ### slices -/
def cutD (xs : List D) (lo hi : Option Int) : List D := (xs.drop (HT.sIx xs.length 0 lo)).take (HT.sIx xs.length xs.length hi - HT.sIx xs.length 0 lo)
theorem RepFs.cut {F : Hp} {ds : List D} {vs : List V} (h : RepFs X.K cA F ds vs) (lo hi : Option Int) : RepFs X.K cA F (cutD ds lo hi) (cutV vs lo hi) := by
  unfold cutD cutV
  rw [h.length]
  exact (h.drop _).take _
def slD (d : D) (lo hi : Option Int) : Option D := match d with
  | .tup xs => some (.tup (cutD xs lo hi))
  | .lst _ xs => some (.lst true (cutD xs lo hi))
  | _ => none
/-- a part of a slice -/
def partE : Option (Sl → R EV) → Sl → R (Option Int)
  | none, s => .ok none s
  | some f, s => penE f (fun e s1 => match evR e s1 with
    | some (.int i) => .ok (some i) s1
    | _ => .no) s
def slE (f : Sl → R EV) (lo hi : Option (Sl → R EV)) : Sl → R EV := penE f fun e s => (partE lo s).bind fun l s1 => (partE hi s1).bind fun u s2 => match evR e s2 with
  | some d => match slD d l u with
    | some d' => .ok (.val d') s2
    | none => .no
  | none => .no
def tP (X : Cx) (cA : Nat → Addr) (W : Gx) (f : Sl → R (Option Int)) : TO := fun σ H Q => ∃ F fp s, Rl X.K cA F W.P W.pn fp s σ H ∧ Po X.K cA W F σ (f s) (fun o s' => ∀ H' F' fp', Same F F' → Rl X.K cA F' W.P W.pn fp' s' σ H' → Q o H')
theorem PO_mono {o : Option Expr} {t t' : TO} (h : PO X o t) (w : ∀ σ H Q, t' σ H Q → t σ H Q) : PO X o t' := ⟨fun pins s σ H Q I q => h.run pins s σ H Q I (w σ H Q q)⟩
theorem sp_none : PO X none (tP X cA W (partE none)) := by
  refine PO_mono po_none fun σ H Q h => ?_
  obtain ⟨F, fp, s, r, p⟩ := h
  exact p H F fp (Same.refl F) r
theorem sp_some (ha : SE X cA W a f) : PO X (some a) (tP X cA W (partE (some f))) := by
  refine PO_mono (po_some ha) fun σ H Q h => ?_
  obtain ⟨F, fp, s, r, p⟩ := h
  have z := one_run (W := W) (f := f) (k := fun e s1 => match evR e s1 with
    | some (.int i) => .ok (some i) s1
    | _ => .no) (C := fun F (o : Option Int) s' => ∀ H' F' fp', Same F F' → Rl X.K cA F' W.P W.pn fp' s' σ H' → Q o H') (fun F F' b s g h H' F2 fp' g2 => h H' F2 fp' (g.trans g2)) ⟨F, fp, s, r, p⟩
  obtain ⟨F, fp, s, rl, p⟩ := z
  refine ⟨F, fp, s, rl, Po.up (Same.refl _) p fun ev s' _ z x H1 F' fp' g' r' q' => ?_⟩
  obtain ⟨F1, fp1, s1, e1, r1, q1, p1⟩ := z x H1 F' fp' g' r' q'
  dsimp only at p1
  split at p1
  · rename_i i h1
    exact ⟨i, int_of r1 q1 h1, p1 H1 F1 fp1 (Same.refl _) r1⟩
  · exact p1.elim
def rSlM (K : PySem.W.Frag) : V → Option Int → Option Int → Hp → VK → Prop := fun x lo hi H Q => rSlA K x lo hi H Q ∨ rSlL K x lo hi H Q
theorem se_sl {lo hi : Option Expr} {fl fh : Option (Sl → R EV)} {p2 : Pos} (ha : SE X cA W a f) (hl : PO X lo (tP X cA W (partE fl))) (hh : PO X hi (tP X cA W (partE fh))) : SE X cA W (.Subscript a (.Slice lo hi none p2) pos) (slE f fl fh) := by
  refine PE_mono (pe_slice (sl_tupA.or sl_list) ha hl hh) fun σ H Q h => ?_
  have z := one_run (C := fun F => KE X.K cA W F σ Q) KE_mono h
  obtain ⟨F, fp, s, rl, p⟩ := z
  refine ⟨F, fp, s, rl, Po.up (Same.refl _) p fun ev s' _ z x H1 F' fp' g' r' q' => ?_⟩
  obtain ⟨F1, fp1, s1, e1, r1, q1, p1⟩ := z x H1 F' fp' g' r' q'
  refine ⟨F1, fp1, s1, r1, Po.bind p1 fun l s2 _ p2 H2 F2 fp2 g2 r2 => ?_⟩
  refine ⟨F2, fp2, s2, r2, Po.bind (Po.up g2 p2 fun _ _ _ z => KE_mono _ _ _ _ g2 z) fun u s3 _ p3 H3 F3 fp3 g3 r3 => ?_⟩
  have q3 := (q1.mono g2).mono g3
  split at p3
  · rename_i d hd
    split at p3
    · rename_i d' hd'
      have p4 : KE X.K cA W F3 σ Q (.val d') s3 := KE_mono _ _ _ _ g3 p3
      cases d <;> simp only [slD, reduceCtorEq] at hd'
      · cases hd'
        obtain ⟨a, vs, rfl, m1, n1⟩ := Ep.flat r3 q3 hd rfl
        refine .inl ⟨a, vs, rfl, SqT_mono m1 r3.fz, fun hw => ?_, fun _ p hp => Ke.tup p4 r3 hp (n1.cut l u)⟩
        refine Ke.fin p4 r3 rfl ⟨a, vs, rfl, m1, ?_⟩
        have z := n1.cut l u
        have e : cutV vs l u = vs := by
          unfold cutV
          rw [hw.1, hw.2, List.drop_zero, Nat.sub_zero, List.take_length]
        rw [e] at z
        exact z
      · cases hd'
        obtain ⟨a, vs, rfl, m1, n1⟩ := Ep.list r3 q3 hd
        exact .inr ⟨a, vs, rfl, .of m1, fun p hp => Ke.list p4 r3 hp (n1.cut l u)⟩
    · exact p3.elim
  · exact p3.elim
end
end NS
namespace NS
open PySem PySem.Spec PyProof.Rows L2

/-! ## 7. built-in calls -/
def rdArgs : List EV → Sl → Option (List D)
  | [], _ => some []
  | e :: es, s => (evR e s).bind fun d => (rdArgs es s).bind fun ds => some (d :: ds)
def bltK (op : List D → Option D) (es : List EV) (s : Sl) : R EV := match rdArgs es s with
  | some ds => match op ds with
    | some d => .ok (.val d) s
    | none => .no
  | none => .no
def bltE (op : List D → Option D) (fs : List (Sl → R EV)) : Sl → R EV := fun s => (argsE fs s).bind (bltK op)
inductive BI where
  | len | int | str | list | tuple | max | min | sum | any | all
  deriving DecidableEq
def BI.name : BI → Str
  | .len => "len" | .int => "int" | .str => "str" | .list => "list" | .tuple => "tuple" | .max => "max" | .min => "min" | .sum => "sum" | .any => "any" | .all => "all"
def BI.of (x : Str) : Option BI := [BI.len, .int, .str, .list, .tuple, .max, .min, .sum, .any, .all].find? fun b => b.name == x
def BI.val : BI → Value
  | .len => .builtin "len" | .int => .type "int" | .str => .type "str" | .list => .type "list" | .tuple => .type "tuple" | .max => .builtin "max" | .min => .builtin "min" | .sum => .builtin "sum" | .any => .builtin "any" | .all => .builtin "all"
def dints : List D → Option (List Int)
  | [] => some []
  | .int i :: ds => (dints ds).map (i :: ·)
  | _ => none
def dbools : List D → Option (List Bool)
  | [] => some []
  | .bl i :: ds => (dbools ds).map (i :: ·)
  | _ => none
def lmax : List Int → Option Int
  | [] => none
  | x :: r => match lmax r with
    | none => some x
    | some y => some (if x < y then y else x)
def lmin : List Int → Option Int
  | [] => none
  | x :: r => match lmin r with
    | none => some x
    | some y => some (if y < x then y else x)
def D.seq : D → Option (List D)
  | .lst _ xs => some xs
  | .ro xs => some xs
  | _ => none
def maxD : List D → Option D
  | [d] => (d.seq.bind dints).bind fun ns => (lmax ns).map .int
  | [d1, d2] => match d1, d2 with
    | .int i, .int j => some (.int (if j > i then j else i))
    | _, _ => none
  | _ => none
def minD : List D → Option D
  | [d] => (d.seq.bind dints).bind fun ns => (lmin ns).map .int
  | [d1, d2] => match d1, d2 with
    | .int i, .int j => some (.int (if j < i then j else i))
    | _, _ => none
  | _ => none
def BI.op : BI → List D → Option D
  | .len, [.str x] => if fits x.length then some (.int x.length) else none
  | .len, [.tup xs] => some (.int xs.length)
  | .len, [.lst _ xs] => some (.int xs.length)
  | .len, [.ro xs] => some (.int xs.length)
  | .len, [.dct _ _ xs] => some (.int xs.length)
  | .int, [.int i] => some (.int i)
  | .int, [.bl b] => some (.int (if b then 1 else 0))
  | .int, [.str x] => if fits x.length && Nat.ble x.length 640 then (PySem.intText? x).map .int else none
  | .str, [.int i] => if decide (0 ≤ i) && decide (i ≤ 1000000000) then some (.str (toString i : String)) else none
  | .str, [.str x] => some (.str x)
  | .list, [.tup xs] => some (.lst true xs)
  | .list, [.lst _ xs] => some (.lst true xs)
  | .list, [.ro xs] => some (.lst true xs)
  | .list, [.str x] => if fits x.length then some (.lst true (x.cps.toList.map fun c => .str ⟨#[c]⟩)) else none
  | .tuple, [.tup xs] => some (.tup xs)
  | .tuple, [.lst _ xs] => some (.tup xs)
  | .max, ds => maxD ds
  | .min, ds => minD ds
  | .sum, [d] => (d.seq.bind dints).map fun ns => .int ns.sum
  | .any, [d] => (d.seq.bind dbools).map fun bs => .bl (bs.any id)
  | .all, [d] => (d.seq.bind dbools).map fun bs => .bl (bs.all id)
  | _, _ => none

section
variable {X : Cx} {cA : Nat → Addr} {W : Gx} {e a b c : Expr} {es : List Expr} {f g h : Sl → R EV} {pos : Pos}
/-- a call's rule r serves op -/
def CallOk (X : Cx) (cA : Nat → Addr) (W : Gx) (op : List D → Option D) (r : List V → Hp → VK → Prop) : Prop :=
  ∀ (F : Hp) (fp : Nat → List Addr) (s : Sl) (σ : L2.St) (H : Hp) (es : List EV) (ds : List D) (d : D) (vs : List V) (Q : VK), Rl X.K cA F W.P W.pn fp s σ H → Eps X.K cA F σ vs es → rdArgs es s = some ds → op ds = some d →
    KE X.K cA W F σ Q (.val d) s → r vs H Q
theorem args_call {op : List D → Option D} {r : List V → Hp → VK → Prop} {fs : List (Sl → R EV)} (ho : CallOk X cA W op r) {σ : L2.St} {H : Hp} {Q : VK} (h : tE X.K cA W (bltE op fs) σ H Q) : tA X.K cA W (argsE fs) σ H fun vs H1 => r vs H1 Q := by
  obtain ⟨F, fp, s, rl, p⟩ := h
  refine ⟨F, fp, s, rl, Po.bind p fun es1 s1 _ p1 vs H1 F1 fp1 g1 r1 q1 => ?_⟩
  unfold bltK at p1
  split at p1
  · rename_i ds hds
    split at p1
    · rename_i d hd
      exact ho F1 fp1 s1 σ H1 es1 ds d vs Q r1 q1 hds hd (KE_mono _ _ _ _ g1 p1)
    · exact p1.elim
  · exact p1.elim
theorem se_callB {op : List D → Option D} {r : List V → Hp → VK → Prop} {fs : List (Sl → R EV)} {x : Str} {id : String} {p : Pos} (hc : CallR X (.builtin id) r) (ho : CallOk X cA W op r) (hg : Gl X x) (hm : X.mg x = none) (hv : bootBuiltins x = some (.builtin id)) (ha : SA X cA W (e :: es) (argsE fs))
    (hn : x ≠ "__name__") (hdb : (x == ("__debug__" : Str)) = false) (hs : (e :: es).all noStar = true) : SE X cA W (.Call (.Name x p) (e :: es) [] pos) (bltE op fs) := by
  rw [List.all_cons, Bool.and_eq_true] at hs
  exact PE_mono (pe_callB hc hg hm hv ha hn hdb (starEach_cons hs.1) (back_plain hs.2)) fun σ H Q h => args_call ho h
theorem se_callTy {op : List D → Option D} {r : List V → Hp → VK → Prop} {fs : List (Sl → R EV)} {x : Str} {T : String} {p : Pos} (hc : CallR X (.type T) r) (ho : CallOk X cA W op r) (hg : Gl X x) (hm : X.mg x = none) (hv : bootBuiltins x = some (.type T)) (ha : SA X cA W (e :: es) (argsE fs))
    (hn : x ≠ "__name__") (hdb : (x == ("__debug__" : Str)) = false) (hs : (e :: es).all noStar = true) : SE X cA W (.Call (.Name x p) (e :: es) [] pos) (bltE op fs) := by
  rw [List.all_cons, Bool.and_eq_true] at hs
  exact PE_mono (pe_callTy hc hg hm hv ha hn hdb (starEach_cons hs.1) (back_plain hs.2)) fun σ H Q h => args_call ho h

/-! ### reading arguments -/
theorem Eps.nil {F : Hp} {σ : L2.St} {vs : List V} {s : Sl} {es : List EV} (h : Eps X.K cA F σ vs es) (e : rdArgs es s = some []) : vs = [] ∧ es = [] := by
  cases es with
  | nil =>
    cases vs with
    | nil => exact ⟨rfl, rfl⟩
    | cons v vs => obtain ⟨_, _, z, _⟩ := h; cases z
  | cons ev es =>
    obtain ⟨d, _, e⟩ := Option.bind_eq_some_iff.mp e
    obtain ⟨ds, _, e⟩ := Option.bind_eq_some_iff.mp e
    cases e
theorem Eps.cons {F : Hp} {σ : L2.St} {vs : List V} {s : Sl} {es : List EV} {d : D} {ds : List D} (h : Eps X.K cA F σ vs es) (e : rdArgs es s = some (d :: ds)) : ∃ v vr ev er, vs = v :: vr ∧ es = ev :: er ∧ Ep X.K cA F σ v ev ∧ evR ev s = some d ∧ Eps X.K cA F σ vr er ∧ rdArgs er s = some ds := by
  cases es with
  | nil => cases e
  | cons ev es =>
    obtain ⟨d', e1, e⟩ := Option.bind_eq_some_iff.mp e
    obtain ⟨ds', e2, e⟩ := Option.bind_eq_some_iff.mp e
    cases e
    cases vs with
    | nil =>
      have h : ev :: es = [] := h
      cases h
    | cons v vs =>
      obtain ⟨_, _, z, q1, q2⟩ := h
      cases z
      exact ⟨v, vs, ev, es, rfl, rfl, q1, e1, q2, e2⟩
theorem Eps.one {F : Hp} {σ : L2.St} {vs : List V} {s : Sl} {es : List EV} {d : D} (h : Eps X.K cA F σ vs es) (e : rdArgs es s = some [d]) : ∃ v ev, vs = [v] ∧ es = [ev] ∧ Ep X.K cA F σ v ev ∧ evR ev s = some d := by
  obtain ⟨v, vr, ev, er, rfl, rfl, q1, e1, q2, e2⟩ := h.cons e
  obtain ⟨rfl, rfl⟩ := q2.nil e2
  exact ⟨v, ev, rfl, rfl, q1, e1⟩
theorem Eps.two {F : Hp} {σ : L2.St} {vs : List V} {s : Sl} {es : List EV} {d d' : D} (h : Eps X.K cA F σ vs es) (e : rdArgs es s = some [d, d']) : ∃ v v' ev ev', vs = [v, v'] ∧ es = [ev, ev'] ∧ Ep X.K cA F σ v ev ∧ evR ev s = some d ∧ Ep X.K cA F σ v' ev' ∧ evR ev' s = some d' := by
  obtain ⟨v, vr, ev, er, rfl, rfl, q1, e1, q2, e2⟩ := h.cons e
  obtain ⟨v', ev', rfl, rfl, q3, e3⟩ := q2.one e2
  exact ⟨v, v', ev, ev', rfl, rfl, q1, e1, q3, e3⟩
theorem dints_ok {F : Hp} : ∀ {ds : List D} {ns : List Int} {vs : List V}, dints ds = some ns → RepFs X.K cA F ds vs → vs = ns.map V.int
  | [], ns, vs, e, h => by
    cases e
    cases (show vs = [] from h)
    rfl
  | d :: ds, ns, vs, e, h => by
    obtain ⟨v, r, rfl, h2, h3⟩ := h
    cases d <;> simp only [dints, reduceCtorEq] at e
    obtain ⟨ms, e1, rfl⟩ := Option.map_eq_some_iff.mp e
    rw [dints_ok e1 h3]
    cases (show v = _ from h2)
    rfl
theorem dbools_ok {F : Hp} : ∀ {ds : List D} {ns : List Bool} {vs : List V}, dbools ds = some ns → RepFs X.K cA F ds vs → vs = ns.map V.bl
  | [], ns, vs, e, h => by
    cases e
    cases (show vs = [] from h)
    rfl
  | d :: ds, ns, vs, e, h => by
    obtain ⟨v, r, rfl, h2, h3⟩ := h
    cases d <;> simp only [dbools, reduceCtorEq] at e
    obtain ⟨ms, e1, rfl⟩ := Option.map_eq_some_iff.mp e
    rw [dbools_ok e1 h3]
    cases (show v = _ from h2)
    rfl
/-- a sequence that is read -/
theorem Ep.seq {F H : Hp} {fp : Nat → List Addr} {s : Sl} {σ : L2.St} {v : V} {ev : EV} {d : D} {xs : List D} (r : Rl X.K cA F W.P W.pn fp s σ H) (h : Ep X.K cA F σ v ev) (e : evR ev s = some d) (q : d.seq = some xs) : ∃ a vs, v = .ref a ∧ SqL X.K H a vs ∧ RepFs X.K cA F xs vs := by
  cases d <;> simp only [D.seq, reduceCtorEq, Option.some.injEq] at q
  · subst q
    obtain ⟨a, vs, rfl, m, n⟩ := Ep.list r h e
    exact ⟨a, vs, rfl, .of m, n⟩
  · subst q
    obtain ⟨a, vs, rfl, m, n⟩ := Ep.flat r h e rfl
    exact ⟨a, vs, rfl, r.fz.seq m, n⟩
theorem lmax_spec : ∀ {ns : List Int} {m : Int}, lmax ns = some m → m ∈ ns ∧ ∀ y ∈ ns, y ≤ m
  | [], m, h => by cases h
  | x :: r, m, h => by
    simp only [lmax] at h
    cases e : lmax r with
    | none =>
      rw [e] at h
      cases h
      have : r = [] := by
        cases r with
        | nil => rfl
        | cons y r => simp only [lmax] at e; split at e <;> cases e
      subst this
      exact ⟨by simp, by simp⟩
    | some y =>
      rw [e] at h
      obtain ⟨h1, h2⟩ := lmax_spec e
      have h : some (if x < y then y else x) = some m := h
      by_cases c : x < y
      · rw [if_pos c] at h
        cases h
        refine ⟨List.mem_cons_of_mem _ h1, fun z hz => ?_⟩
        rcases List.mem_cons.mp hz with rfl | hz
        · omega
        · exact h2 z hz
      · rw [if_neg c] at h
        cases h
        refine ⟨by simp, fun z hz => ?_⟩
        rcases List.mem_cons.mp hz with rfl | hz
        · omega
        · have := h2 z hz; omega
theorem lmin_spec : ∀ {ns : List Int} {m : Int}, lmin ns = some m → m ∈ ns ∧ ∀ y ∈ ns, m ≤ y
  | [], m, h => by cases h
  | x :: r, m, h => by
    simp only [lmin] at h
    cases e : lmin r with
    | none =>
      rw [e] at h
      cases h
      have : r = [] := by
        cases r with
        | nil => rfl
        | cons y r => simp only [lmin] at e; split at e <;> cases e
      subst this
      exact ⟨by simp, by simp⟩
    | some y =>
      rw [e] at h
      obtain ⟨h1, h2⟩ := lmin_spec e
      have h : some (if y < x then y else x) = some m := h
      by_cases c : y < x
      · rw [if_pos c] at h
        cases h
        refine ⟨List.mem_cons_of_mem _ h1, fun z hz => ?_⟩
        rcases List.mem_cons.mp hz with rfl | hz
        · omega
        · exact h2 z hz
      · rw [if_neg c] at h
        cases h
        refine ⟨by simp, fun z hz => ?_⟩
        rcases List.mem_cons.mp hz with rfl | hz
        · omega
        · have := h2 z hz; omega

/-! ### list of a text -/
theorem vals_signs {x : Str} {acc : Array Value} (h : ItemsOf (SignAt x) acc x.cps.size) : Vals (x.cps.toList.map fun c => V.str ⟨#[c]⟩) acc.toList := by
  refine vals_of_at (by rw [List.length_map]; simp [h.1]) fun j v u e1 e2 => ?_
  obtain ⟨c, t, hc, rfl⟩ := h.2 j u (by simpa using e2)
  rw [List.getElem?_map] at e1
  have hc' : x.cps.toList[j]? = some c := by simpa using hc
  rw [hc'] at e1
  cases e1
  exact ⟨t, rfl⟩
def rListS : List V → Hp → VK → Prop := fun xs H Q => ∃ x, xs = [.str x] ∧ x.length ≤ sizeLine ∧ ∀ p, H p = none → Q (.ref p) (upd H p (.lst (x.cps.toList.map fun c => V.str ⟨#[c]⟩)))
theorem call_listS (hc : X.calm = true) : CallR X (.type "list") rListS := by
  intro pins s σ H xs us Q I r h
  obtain ⟨x, rfl, hz, q⟩ := h
  obtain ⟨u, rfl, ru⟩ := Vals.one r
  obtain ⟨t, rfl⟩ := ru
  refine PySem.call_list_str (I.ok.hd hc) x t (fun h' tk acc' c' hk hS hacc => ?_) hz
  refine ⟨.ref s.heap.objs.size, _, I.laid (t' := tk) (o := .lst (x.cps.toList.map fun c => V.str ⟨#[c]⟩)) hk (Nat.le_refl _) ⟨?_, acc'.toList, c', vals_signs hacc, ?_⟩, rfl, q _ (I.hok.fresh (Nat.le_refl _))⟩
  · rw [List.length_map]
    exact hz
  · rw [hS]
end
end NS
namespace NS
open PySem PySem.Spec PyProof.Rows L2
section
variable {X : Cx} {cA : Nat → Addr} {W : Gx} {e a b c : Expr} {es : List Expr} {f g h : Sl → R EV} {pos : Pos}

abbrev rLenA (K : PySem.W.Frag) : List V → Hp → VK → Prop := fun xs H Q => (∃ x n, xs = [x] ∧ LenV K x H n ∧ Q (.int n) H) ∨ ∃ a kvs, xs = [V.ref a] ∧ H a = some (.dK kvs) ∧ Q (.int kvs.length) H
theorem len_ok : CallOk X cA W (BI.op .len) (rLenA X.K) := by
  intro F fp s σ H es ds d vs Q r q hd ho k
  rcases ds with _ | ⟨d1, _ | ⟨d2, ds⟩⟩
  · cases ho
  · obtain ⟨v, ev, rfl, rfl, q1, h1⟩ := q.one hd
    cases d1 <;> simp only [BI.op, reduceCtorEq] at ho
    · split at ho
      · rename_i hf
        cases ho
        cases str_of r q1 h1
        exact .inl ⟨_, _, rfl, ⟨Nat.le_trans (fits_le hf) LN_le, rfl⟩, Ke.fin k r rfl rfl⟩
      · cases ho
    · cases ho
      obtain ⟨a, vs, rfl, m1, n1⟩ := Ep.flat r q1 h1 rfl
      rw [n1.length] at k
      exact .inl ⟨_, _, rfl, .inr ⟨vs, SqT_mono m1 r.fz, rfl⟩, Ke.fin k r rfl rfl⟩
    · cases ho
      obtain ⟨a, vs, rfl, m1, n1⟩ := Ep.list r q1 h1
      rw [n1.length] at k
      exact .inl ⟨_, _, rfl, .inl ⟨vs, .of m1, rfl⟩, Ke.fin k r rfl rfl⟩
    · cases ho
      obtain ⟨a, vs, rfl, m1, n1⟩ := Ep.flat r q1 h1 rfl
      rw [n1.length] at k
      exact .inl ⟨_, _, rfl, .inl ⟨vs, r.fz.seq m1, rfl⟩, Ke.fin k r rfl rfl⟩
    · cases ho
      obtain ⟨a, vs, rfl, m1, hl, n1⟩ := Ep.dict r q1 h1
      rename_i ks xs
      have e : xs.length = (ks.zip vs).length := by rw [List.length_zip, hl, Nat.min_self, n1.length]
      rw [e] at k
      exact .inr ⟨a, _, rfl, m1, Ke.fin k r rfl rfl⟩
  · simp only [BI.op, reduceCtorEq] at ho
abbrev rIntA : List V → Hp → VK → Prop := fun xs H Q => ((∃ i, xs = [.int i] ∧ Q (.int i) H) ∨ ∃ k, xs = [.bl k] ∧ Q (.int (if k then 1 else 0)) H) ∨ ∃ a n, xs = [.str a] ∧ PySem.intText? a = some n ∧ a.length ≤ 640 ∧ Q (.int n) H
theorem int_ok : CallOk X cA W (BI.op .int) rIntA := by
  intro F fp s σ H es ds d vs Q r q hd ho k
  rcases ds with _ | ⟨d1, _ | ⟨d2, ds⟩⟩
  · cases ho
  · obtain ⟨v, ev, rfl, rfl, q1, h1⟩ := q.one hd
    cases d1 <;> simp only [BI.op, reduceCtorEq] at ho
    · cases ho
      cases bl_of r q1 h1
      exact .inl (.inr ⟨_, rfl, Ke.fin k r rfl rfl⟩)
    · cases ho
      cases int_of r q1 h1
      exact .inl (.inl ⟨_, rfl, Ke.fin k r rfl rfl⟩)
    · split at ho
      · rename_i hf
        rw [Bool.and_eq_true] at hf
        obtain ⟨n, hn, rfl⟩ := Option.map_eq_some_iff.mp ho
        cases str_of r q1 h1
        exact .inr ⟨_, n, rfl, hn, Nat.le_of_ble_eq_true hf.2, Ke.fin k r rfl rfl⟩
      · cases ho
  · simp only [BI.op, reduceCtorEq] at ho
abbrev rStrA : List V → Hp → VK → Prop := fun xs H Q => (∃ i, xs = [.int i] ∧ i.natAbs.log2 < 1920 ∧ Q (.str (toString i)) H) ∨ ∃ a, xs = [.str a] ∧ Q (.str a) H
theorem str_ok : CallOk X cA W (BI.op .str) rStrA := by
  intro F fp s σ H es ds d vs Q r q hd ho k
  rcases ds with _ | ⟨d1, _ | ⟨d2, ds⟩⟩
  · cases ho
  · obtain ⟨v, ev, rfl, rfl, q1, h1⟩ := q.one hd
    cases d1 <;> simp only [BI.op, reduceCtorEq] at ho
    · split at ho
      · rename_i i hf
        rw [Bool.and_eq_true] at hf
        cases ho
        cases int_of r q1 h1
        have z1 := of_decide_eq_true hf.1
        have z2 := of_decide_eq_true hf.2
        refine .inl ⟨_, rfl, ?_, Ke.fin k r rfl rfl⟩
        by_cases h0 : i.natAbs = 0
        · rw [h0]
          decide
        · refine (Nat.log2_lt h0).mpr (Nat.lt_of_lt_of_le (show i.natAbs < 2 ^ 31 by omega) (Nat.pow_le_pow_right (by decide) (by decide)))
      · cases ho
    · cases ho
      cases str_of r q1 h1
      exact .inr ⟨_, rfl, Ke.fin k r rfl rfl⟩
  · simp only [BI.op, reduceCtorEq] at ho
abbrev rListA (K : PySem.W.Frag) : List V → Hp → VK → Prop := fun xs H Q => (∃ p ys, xs = [.ref p] ∧ (SqL K H p ys ∨ SqT K H p ys) ∧ ∀ l, H l = none → Q (.ref l) (upd H l (.lst ys))) ∨ rListS xs H Q
theorem RepFs.signs {F : Hp} : ∀ (l : List Nat), RepFs X.K cA F (l.map fun c => .str ⟨#[c]⟩) (l.map fun c => V.str ⟨#[c]⟩)
  | [] => rfl
  | c :: l => ⟨_, _, rfl, rfl, RepFs.signs l⟩
theorem list_ok : CallOk X cA W (BI.op .list) (rListA X.K) := by
  intro F fp s σ H es ds d vs Q r q hd ho k
  rcases ds with _ | ⟨d1, _ | ⟨d2, ds⟩⟩
  · cases ho
  · obtain ⟨v, ev, rfl, rfl, q1, h1⟩ := q.one hd
    cases d1 <;> simp only [BI.op, reduceCtorEq] at ho
    · split at ho
      · rename_i hf
        cases ho
        cases str_of r q1 h1
        exact .inr ⟨_, rfl, Nat.le_trans (fits_le hf) LN_le, fun p hp => Ke.list k r hp (RepFs.signs _)⟩
      · cases ho
    · cases ho
      obtain ⟨a, vs, rfl, m1, n1⟩ := Ep.flat r q1 h1 rfl
      exact .inl ⟨_, _, rfl, .inr (SqT_mono m1 r.fz), fun p hp => Ke.list k r hp n1⟩
    · cases ho
      obtain ⟨a, vs, rfl, m1, n1⟩ := Ep.list r q1 h1
      exact .inl ⟨_, _, rfl, .inl (.of m1), fun p hp => Ke.list k r hp n1⟩
    · cases ho
      obtain ⟨a, vs, rfl, m1, n1⟩ := Ep.flat r q1 h1 rfl
      exact .inl ⟨_, _, rfl, .inl (r.fz.seq m1), fun p hp => Ke.list k r hp n1⟩
  · simp only [BI.op, reduceCtorEq] at ho
abbrev rTupA (K : PySem.W.Frag) : List V → Hp → VK → Prop := fun xs H Q => ∃ p ys, xs = [.ref p] ∧ ((SqL K H p ys ∧ ∀ l, H l = none → Q (.ref l) (upd H l (.tup ys))) ∨ (SqT K H p ys ∧ Q (.ref p) H))
theorem tuple_ok : CallOk X cA W (BI.op .tuple) (rTupA X.K) := by
  intro F fp s σ H es ds d vs Q r q hd ho k
  rcases ds with _ | ⟨d1, _ | ⟨d2, ds⟩⟩
  · cases ho
  · obtain ⟨v, ev, rfl, rfl, q1, h1⟩ := q.one hd
    cases d1 <;> simp only [BI.op, reduceCtorEq] at ho
    · cases ho
      obtain ⟨a, vs, rfl, m1, n1⟩ := Ep.flat r q1 h1 rfl
      exact ⟨_, _, rfl, .inr ⟨SqT_mono m1 r.fz, Ke.fin k r rfl ⟨a, vs, rfl, m1, n1⟩⟩⟩
    · cases ho
      obtain ⟨a, vs, rfl, m1, n1⟩ := Ep.list r q1 h1
      exact ⟨_, _, rfl, .inl ⟨.of m1, fun p hp => Ke.tup k r hp n1⟩⟩
  · simp only [BI.op, reduceCtorEq] at ho
abbrev rMaxA (K : PySem.W.Frag) : List V → Hp → VK → Prop := fun xs H Q => (∃ i j, xs = [.int i, .int j] ∧ Q (.int (if j > i then j else i)) H) ∨ rMax K xs H Q
abbrev rMinA (K : PySem.W.Frag) : List V → Hp → VK → Prop := fun xs H Q => (∃ i j, xs = [.int i, .int j] ∧ Q (.int (if j < i then j else i)) H) ∨ rMin K xs H Q
theorem max_ok : CallOk X cA W (BI.op .max) (rMaxA X.K) := by
  intro F fp s σ H es ds d vs Q r q hd ho k
  have ho : maxD ds = some d := ho
  rcases ds with _ | ⟨d1, _ | ⟨d2, _ | ⟨d3, ds⟩⟩⟩
  · cases ho
  · have ho : (d1.seq.bind dints).bind (fun ns => (lmax ns).map .int) = some d := ho
    obtain ⟨ns, hns, ho⟩ := Option.bind_eq_some_iff.mp ho
    obtain ⟨m, hm, rfl⟩ := Option.map_eq_some_iff.mp ho
    obtain ⟨xs, hx, hn⟩ := Option.bind_eq_some_iff.mp hns
    obtain ⟨v, ev, rfl, rfl, q1, h1⟩ := q.one hd
    obtain ⟨a, vs, rfl, m1, n1⟩ := Ep.seq r q1 h1 hx
    cases dints_ok hn n1
    obtain ⟨s1, s2⟩ := lmax_spec hm
    refine .inr ⟨a, ns, rfl, m1, ?_, fun m' h1 h2 => ?_⟩
    · exact List.length_pos_of_mem s1
    · have : m' = m := Int.le_antisymm ((s2 m' h1)) ((h2 m s1))
      subst this
      exact Ke.fin k r rfl rfl
  · cases d1 <;> cases d2 <;> simp only [maxD, reduceCtorEq] at ho
    cases ho
    obtain ⟨v, v', ev, ev', rfl, rfl, q1, h1, q2, h2⟩ := q.two hd
    exact .inl ⟨_, _, by rw [int_of r q1 h1, int_of r q2 h2], Ke.fin k r rfl rfl⟩
  · cases ho
theorem min_ok : CallOk X cA W (BI.op .min) (rMinA X.K) := by
  intro F fp s σ H es ds d vs Q r q hd ho k
  have ho : minD ds = some d := ho
  rcases ds with _ | ⟨d1, _ | ⟨d2, _ | ⟨d3, ds⟩⟩⟩
  · cases ho
  · have ho : (d1.seq.bind dints).bind (fun ns => (lmin ns).map .int) = some d := ho
    obtain ⟨ns, hns, ho⟩ := Option.bind_eq_some_iff.mp ho
    obtain ⟨m, hm, rfl⟩ := Option.map_eq_some_iff.mp ho
    obtain ⟨xs, hx, hn⟩ := Option.bind_eq_some_iff.mp hns
    obtain ⟨v, ev, rfl, rfl, q1, h1⟩ := q.one hd
    obtain ⟨a, vs, rfl, m1, n1⟩ := Ep.seq r q1 h1 hx
    cases dints_ok hn n1
    obtain ⟨s1, s2⟩ := lmin_spec hm
    refine .inr ⟨a, ns, rfl, m1, ?_, fun m' h1 h2 => ?_⟩
    · exact List.length_pos_of_mem s1
    · have : m' = m := Int.le_antisymm ((h2 m s1)) ((s2 m' h1))
      subst this
      exact Ke.fin k r rfl rfl
  · cases d1 <;> cases d2 <;> simp only [minD, reduceCtorEq] at ho
    cases ho
    obtain ⟨v, v', ev, ev', rfl, rfl, q1, h1, q2, h2⟩ := q.two hd
    exact .inl ⟨_, _, by rw [int_of r q1 h1, int_of r q2 h2], Ke.fin k r rfl rfl⟩
  · cases ho
theorem sum_ok : CallOk X cA W (BI.op .sum) (rSum X.K) := by
  intro F fp s σ H es ds d vs Q r q hd ho k
  rcases ds with _ | ⟨d1, _ | ⟨d2, ds⟩⟩
  · cases ho
  · obtain ⟨v, ev, rfl, rfl, q1, h1⟩ := q.one hd
    simp only [BI.op] at ho
    obtain ⟨ns, hns, rfl⟩ := Option.map_eq_some_iff.mp ho
    obtain ⟨xs, hx, hn⟩ := Option.bind_eq_some_iff.mp hns
    obtain ⟨a, vs, rfl, m1, n1⟩ := Ep.seq r q1 h1 hx
    cases dints_ok hn n1
    exact ⟨a, ns, rfl, m1, Ke.fin k r rfl rfl⟩
  · simp only [BI.op, reduceCtorEq] at ho
theorem any_ok : CallOk X cA W (BI.op .any) (rAny X.K) := by
  intro F fp s σ H es ds d vs Q r q hd ho k
  rcases ds with _ | ⟨d1, _ | ⟨d2, ds⟩⟩
  · cases ho
  · obtain ⟨v, ev, rfl, rfl, q1, h1⟩ := q.one hd
    simp only [BI.op] at ho
    obtain ⟨ns, hns, rfl⟩ := Option.map_eq_some_iff.mp ho
    obtain ⟨xs, hx, hn⟩ := Option.bind_eq_some_iff.mp hns
    obtain ⟨a, vs, rfl, m1, n1⟩ := Ep.seq r q1 h1 hx
    cases dbools_ok hn n1
    exact ⟨a, ns, rfl, m1, Ke.fin k r rfl rfl⟩
  · simp only [BI.op, reduceCtorEq] at ho
theorem all_ok : CallOk X cA W (BI.op .all) (rAll X.K) := by
  intro F fp s σ H es ds d vs Q r q hd ho k
  rcases ds with _ | ⟨d1, _ | ⟨d2, ds⟩⟩
  · cases ho
  · obtain ⟨v, ev, rfl, rfl, q1, h1⟩ := q.one hd
    simp only [BI.op] at ho
    obtain ⟨ns, hns, rfl⟩ := Option.map_eq_some_iff.mp ho
    obtain ⟨xs, hx, hn⟩ := Option.bind_eq_some_iff.mp hns
    obtain ⟨a, vs, rfl, m1, n1⟩ := Ep.seq r q1 h1 hx
    cases dbools_ok hn n1
    exact ⟨a, ns, rfl, m1, Ke.fin k r rfl rfl⟩
  · simp only [BI.op, reduceCtorEq] at ho
theorem BI.of_name {x : Str} {b : BI} (h : BI.of x = some b) : x = b.name := by
  have z := List.find?_some h
  exact (beq_iff_eq.mp z).symm
theorem BI.boot : ∀ b : BI, bootBuiltins b.name = some b.val
  | .len => by decide +kernel
  | .int => by decide +kernel
  | .str => by decide +kernel
  | .list => by decide +kernel
  | .tuple => by decide +kernel
  | .max => by decide +kernel
  | .min => by decide +kernel
  | .sum => by decide +kernel
  | .any => by decide +kernel
  | .all => by decide +kernel
theorem BI.nm : ∀ b : BI, b.name ≠ "__name__" ∧ (b.name == ("__debug__" : Str)) = false
  | .len => by decide +kernel
  | .int => by decide +kernel
  | .str => by decide +kernel
  | .list => by decide +kernel
  | .tuple => by decide +kernel
  | .max => by decide +kernel
  | .min => by decide +kernel
  | .sum => by decide +kernel
  | .any => by decide +kernel
  | .all => by decide +kernel
theorem se_bi {b : BI} {fs : List (Sl → R EV)} {p : Pos} (hc : X.calm = true) (hg : Gl X b.name) (hm : X.mg b.name = none) (ha : SA X cA W (e :: es) (argsE fs)) (hs : (e :: es).all noStar = true) : SE X cA W (.Call (.Name b.name p) (e :: es) [] pos) (bltE b.op fs) := by
  have nm := b.nm
  have bt := b.boot
  cases b
  · exact se_callB (call_len.or call_lenD) len_ok hg hm bt ha nm.1 nm.2 hs
  · exact se_callTy (call_int1.or call_int_str) int_ok hg hm bt ha nm.1 nm.2 hs
  · exact se_callTy (call_str_int.or SkE.call_str_str) str_ok hg hm bt ha nm.1 nm.2 hs
  · exact se_callTy (call_list_of.or (call_listS hc)) list_ok hg hm bt ha nm.1 nm.2 hs
  · exact se_callTy call_tuple_of tuple_ok hg hm bt ha nm.1 nm.2 hs
  · exact se_callB ((call_max2 hc).or (cr_max hc)) max_ok hg hm bt ha nm.1 nm.2 hs
  · exact se_callB ((call_min2 hc).or (cr_min hc)) min_ok hg hm bt ha nm.1 nm.2 hs
  · exact se_callB (cr_sum hc) sum_ok hg hm bt ha nm.1 nm.2 hs
  · exact se_callB (cr_any hc) any_ok hg hm bt ha nm.1 nm.2 hs
  · exact se_callB (cr_all hc) all_ok hg hm bt ha nm.1 nm.2 hs

/-! ### isinstance -/
inductive TN where
  | tuple | list | int | bool | str | dict
  deriving DecidableEq
def TN.s : TN → String
  | .tuple => "tuple" | .list => "list" | .int => "int" | .bool => "bool" | .str => "str" | .dict => "dict"
def TN.of (x : Str) : Option TN := [TN.tuple, .list, .int, .bool, .str, .dict].find? fun t => (t.s : Str) == x
inductive Tg where
  | non | bl | int | str | tup | lst | dct
def Tg.s : Tg → String
  | .non => "NoneType" | .bl => "bool" | .int => "int" | .str => "str" | .tup => "tuple" | .lst => "list" | .dct => "dict"
def D.tg : D → Option Tg
  | .non => some .non | .bl _ => some .bl | .int _ => some .int | .str _ => some .str | .tup _ => some .tup | .lst _ _ => some .lst | .ro _ => some .lst | .dct _ _ _ => some .dct | .obj _ _ _ _ => none
def TN.is : TN → Tg → Bool
  | .tuple, .tup => true
  | .list, .lst => true
  | .int, .int => true
  | .int, .bl => true
  | .bool, .bl => true
  | .str, .str => true
  | .dict, .dct => true
  | _, _ => false
/-- is data of the type -/
def isTy (t : TN) (d : D) : Option Bool := d.tg.map t.is
theorem kit_tab (t : TN) (g : Tg) : kitB g.s t.s = some (t.is g) := by
  cases t <;> cases g <;> decide +kernel
theorem Ep.ty {F H : Hp} {fp : Nat → List Addr} {s : Sl} {σ : L2.St} {v : V} {ev : EV} {d : D} {n : Tg} (r : Rl X.K cA F W.P W.pn fp s σ H) (h : Ep X.K cA F σ v ev) (e : evR ev s = some d) (q : d.tg = some n) : TyX X.K H v (.type n.s) := by
  cases d <;> simp only [D.tg, Option.some.injEq, reduceCtorEq] at q <;> subst q
  · cases (Ep.flat r h e rfl : v = _); exact .base .non
  · cases (Ep.flat r h e rfl : v = _); exact .base (.bl _)
  · cases (Ep.flat r h e rfl : v = _); exact .base (.int _)
  · cases (Ep.flat r h e rfl : v = _); exact .base (.str _)
  · obtain ⟨a, vs, rfl, m, _⟩ := Ep.flat r h e rfl
    rcases SqT_mono m r.fz with (m | ⟨o, m⟩) | ⟨o, its, n, m, hc, _⟩
    · exact .base (.tup m)
    · exact .fTuple m
    · exact .kTuple m hc
  · obtain ⟨a, vs, rfl, m, _⟩ := Ep.list r h e
    exact .base (.lst m)
  · obtain ⟨a, vs, rfl, m, _⟩ := Ep.flat r h e rfl
    rcases r.fz.seq m with (m | ⟨o, m⟩) | ⟨o, its, n, m, hc, _⟩
    · exact .base (.lst m)
    · exact .base (.frz m)
    · exact .kList m hc
  · obtain ⟨a, vs, rfl, m, _⟩ := Ep.dict r h e
    exact .base (.dK m)
def isiE (t : TN) (f : Sl → R EV) : Sl → R EV := penE f (op1K fun d => (isTy t d).map .bl)
theorem TN.boot : ∀ t : TN, bootBuiltins t.s = some (.type t.s) ∧ (t.s : Str) ≠ "__name__" ∧ ((t.s : Str) == ("__debug__" : Str)) = false
  | .tuple => by decide +kernel
  | .list => by decide +kernel
  | .int => by decide +kernel
  | .bool => by decide +kernel
  | .str => by decide +kernel
  | .dict => by decide +kernel
theorem se_isi {t : TN} {p p2 : Pos} (hg : Gl X "isinstance") (hm : X.mg "isinstance" = none) (hg2 : Gl X t.s) (hm2 : X.mg t.s = none) (ha : SE X cA W a f) (hs : noStar a = true) : SE X cA W (.Call (.Name "isinstance" p) [a, .Name t.s p2] [] pos) (isiE t f) := by
  obtain ⟨b1, b2, b3⟩ := t.boot
  have hp : PE X (.Name t.s p2) (tC (.ty t.s)) := pe_bltn hg2 hm2 b1 rfl b2 b3
  have he2 : starEach [a, .Name t.s p2] X.env = (false, eval a X.env) :: starEach [.Name t.s p2] X.env := starEach_cons hs
  refine PE_mono (pe_callB call_isi hg hm boot_isinstance (pa_cons ha (pa_cons hp pa_nil rfl) he2) (by decide +kernel) (by decide +kernel) he2 (back_plain rfl)) fun σ H Q h => ?_
  have z := one_run (C := fun F => KE X.K cA W F σ Q) KE_mono h
  obtain ⟨F, fp, s, rl, p⟩ := z
  refine ⟨F, fp, s, rl, Po.up (Same.refl _) p fun ev s' _ z x H1 F' fp' g' r' q' => ?_⟩
  obtain ⟨F1, fp1, s1, e1, r1, q1, p1⟩ := z x H1 F' fp' g' r' q'
  unfold op1K at p1
  split at p1
  · rename_i d1 h1
    split at p1
    · rename_i d hd
      obtain ⟨b, hb, rfl⟩ := Option.map_eq_some_iff.mp hd
      obtain ⟨n, hn, rfl⟩ := Option.map_eq_some_iff.mp hb
      exact ⟨x, .ty t.s, .type n.s, .type t.s, _, rfl, .ty _, Ep.ty r1 q1 h1 hn, kit_ty (kit_tab t n), Ke.fin p1 r1 rfl rfl⟩
    · exact p1.elim
  · exact p1.elim
end
end NS
namespace NS
open PySem PySem.Spec PyProof.Rows L2

/-! ## 8. statements -/
inductive Fl where
  | nx (s : Sl)
  | rt (d : D) (s : Sl)
  | bk (s : Sl)
  | ct (s : Sl)
  | ex (x : Xn) (s : Sl)
  | no
def R.to {α : Type} (r : R α) (k : α → Sl → Fl) : Fl := match r with
  | .ok a s => k a s
  | .ex x s => .ex x s
  | .no => .no
def Fl.seq (r : Fl) (k : Sl → Fl) : Fl := match r with
  | .nx s => k s
  | r => r
def nxS : Sl → Fl := fun s => .nx s
def seqS (f g : Sl → Fl) : Sl → Fl := fun s => (f s).seq g
def retS (f : Sl → R EV) : Sl → Fl := fun s => (f s).to fun e s1 => match e with
  | .val d => .rt d s1
  | .al i => match s1[i]? with
    | some (some d) => .rt d (s1.set i none)
    | _ => .no
def retN : Sl → Fl := fun s => .rt .non s
def exprS (f : Sl → R EV) : Sl → Fl := fun s => (f s).to fun _ s1 => .nx s1
def ifS (c : Sl → R Bool) (f g : Sl → Fl) : Sl → Fl := fun s => (c s).to fun b s1 => if b then f s1 else g s1
/-- name = value -/
def setS (i : Nat) (f : Sl → R EV) : Sl → Fl := fun s => (f s).to fun e s1 => match e with
  | .val d => if Nat.blt i s1.length then .nx (s1.set i (some d)) else .no
  | .al j => match s1[j]? with
    | some (some d) => if Nat.blt i s1.length then .nx ((s1.set j (some d.frz)).set i (some d.frz)) else .no
    | _ => .no
/-- targets, from shared data -/
def tgN (i : Nat) (d : D) (s : Sl) : Option Sl := if Nat.blt i s.length then some (s.set i (some d)) else none
def tgNs : List Nat → List D → Sl → Option Sl
  | [], [], s => some s
  | i :: is, d :: ds, s => (tgN i d s).bind (tgNs is ds)
  | _, _, _ => none
def tgT (is : List Nat) (d : D) (s : Sl) : Option Sl := match d with
  | .tup xs => tgNs is xs s
  | _ => none
/-- target = value, the value kept -/
def asgS (tg : D → Sl → Option Sl) (f : Sl → R EV) : Sl → Fl := fun s => penE f (fun e s1 => .ok e s1) s |>.to fun e s1 => match evV e s1 with
  | some (d, s2) => match tg d s2 with
    | some s3 => .nx s3
    | none => .no
  | none => .no

section
variable (K : PySem.W.Frag) (cA : Nat → Addr)
def PoS (W : Gx) (F : Hp) (D : Ends) (r : Fl) : Prop := match r with
  | .nx s => ∀ σ H F' fp', Same F F' → Rl K cA F' W.P W.pn fp' s σ H → D.nx σ H
  | .bk s => ∀ σ H F' fp', Same F F' → Rl K cA F' W.P W.pn fp' s σ H → D.bk σ H
  | .ct s => ∀ σ H F' fp', Same F F' → Rl K cA F' W.P W.pn fp' s σ H → D.ct σ H
  | .rt d s => ∀ v σ H F' fp', Same F F' → Rl K cA F' W.P W.pn fp' s σ H → Ev K cA F' W.P H fp' s σ v (.val d) → D.rt v H
  | .ex x s => ∀ cls dx σ H F' fp', Same F F' → Rl K cA F' W.P W.pn fp' s σ H → XnOk K cA F' H x cls dx → W.w cls dx σ H
  | .no => False
def tS (W : Gx) (f : Sl → Fl) : TS := fun D σ H => ∃ F fp s, Rl K cA F W.P W.pn fp s σ H ∧ PoS K cA W F D (f s)
end
section
variable {K : PySem.W.Frag} {cA : Nat → Addr} {W : Gx} {F F' H : Hp} {σ : L2.St}
theorem PoS.up {D : Ends} {r : Fl} (e : Same F F') (h : PoS K cA W F D r) : PoS K cA W F' D r := by
  cases r with
  | nx s => exact fun σ H F2 fp' g => h σ H F2 fp' (e.trans g)
  | bk s => exact fun σ H F2 fp' g => h σ H F2 fp' (e.trans g)
  | ct s => exact fun σ H F2 fp' g => h σ H F2 fp' (e.trans g)
  | rt d s => exact fun v σ H F2 fp' g => h v σ H F2 fp' (e.trans g)
  | ex x s => exact fun cls dx σ H F2 fp' g => h cls dx σ H F2 fp' (e.trans g)
  | no => exact h
/-- an expression ahead of a statement's end -/
theorem PoS.to {α : Type} {D : Ends} {r : R α} {k : α → Sl → Fl} {C : α → Sl → Prop} (h : PoS K cA W F D (r.to k)) (hc : ∀ a s, r = .ok a s → PoS K cA W F D (k a s) → C a s) : Po K cA W F σ r C := by
  cases r with
  | ok a s => exact hc a s rfl h
  | ex x s => exact fun cls dx H' F' fp' => h cls dx σ H' F' fp'
  | no => exact h
theorem PoS.seq {D : Ends} {r : Fl} {k : Sl → Fl} {D' : Ends} (h : PoS K cA W F D (r.seq k)) (hn : ∀ s, r = .nx s → PoS K cA W F D (k s) → ∀ σ H F' fp', Same F F' → Rl K cA F' W.P W.pn fp' s σ H → D'.nx σ H) (hr : D'.rt = D.rt) (hb : D'.bk = D.bk) (hcc : D'.ct = D.ct) : PoS K cA W F D' r := by
  cases r with
  | nx s => exact hn s rfl h
  | bk s => show ∀ σ H F' fp', _ → _ → D'.bk σ H; rw [hb]; exact h
  | ct s => show ∀ σ H F' fp', _ → _ → D'.ct σ H; rw [hcc]; exact h
  | rt d s => show ∀ v σ H F' fp', _ → _ → _ → D'.rt v H; rw [hr]; exact h
  | ex x s => exact h
  | no => exact h
end
section
variable {X : Cx} {cA : Nat → Addr} {W : Gx} {e a b c : Expr} {es : List Expr} {f g h : Sl → R EV} {pos : Pos} {st : Stmt} {sts : List Stmt} {F1 F2 : Sl → Fl}
abbrev SS (X : Cx) (cA : Nat → Addr) (W : Gx) (st : Stmt) (f : Sl → Fl) : Prop := PS X st (tS X.K cA W f)
abbrev SSs (X : Cx) (cA : Nat → Addr) (W : Gx) (st : List Stmt) (f : Sl → Fl) : Prop := PSs X st (tS X.K cA W f)
theorem sss_nil : SSs X cA W [] nxS := by
  refine PSs_mono pss_nil fun D σ H h => ?_
  obtain ⟨F, fp, s, r, p⟩ := h
  exact p σ H F fp (Same.refl F) r
theorem sss_cons (h1 : SS X cA W st F1) (h2 : SSs X cA W sts F2) : SSs X cA W (st :: sts) (seqS F1 F2) := by
  refine PSs_mono (pss_cons h1 h2) fun D σ H h => ?_
  obtain ⟨F, fp, s, r, p⟩ := h
  exact ⟨F, fp, s, r, PoS.seq p (fun s1 _ p1 σ1 H1 F1 fp1 g1 r1 => ⟨F1, fp1, s1, r1, p1.up g1⟩) rfl rfl rfl⟩
theorem sss_one (h1 : SS X cA W st F1) : SSs X cA W [st] F1 := pss_one h1
theorem ss_pass : SS X cA W (.Pass pos) nxS := by
  refine PS_mono ps_pass fun D σ H h => ?_
  obtain ⟨F, fp, s, r, p⟩ := h
  exact p σ H F fp (Same.refl F) r
theorem ss_expr (ha : SE X cA W e f) (hn : notComp e = true) : SS X cA W (.Expr e pos) (exprS f) := by
  refine PS_mono (ps_expr ha (swaps_no hn)) fun D σ H h => ?_
  obtain ⟨F, fp, s, r, p⟩ := h
  exact ⟨F, fp, s, r, PoS.to p fun ev s1 _ p1 v H1 F1 fp1 g1 r1 _ => p1 σ H1 F1 fp1 g1 r1⟩
theorem ss_if {tc : Sl → R Bool} {p q : List Stmt} (hc : ST X cA W c tc) (ha : SSs X cA W p F1) (hb : SSs X cA W q F2) : SS X cA W (.If c p q pos) (ifS tc F1 F2) := by
  refine PS_mono (ps_if hc ha hb) fun D σ H h => ?_
  obtain ⟨F, fp, s, r, p⟩ := h
  refine ⟨F, fp, s, r, PoS.to p fun b s1 _ p1 H1 F1 fp1 g1 r1 => ?_⟩
  cases b with
  | true => exact iteT ⟨F1, fp1, s1, r1, p1.up g1⟩
  | false => exact iteF ⟨F1, fp1, s1, r1, p1.up g1⟩
theorem ss_ret (ha : SE X cA W e f) : SS X cA W (.Return (some e) pos) (retS f) := by
  refine PS_mono (ps_ret ha) fun D σ H h => ?_
  obtain ⟨F, fp, s, r, p⟩ := h
  refine ⟨F, fp, s, r, PoS.to p fun ev s1 _ p1 v H1 F1 fp1 g1 r1 q1 => ?_⟩
  split at p1
  · exact p1 v σ H1 F1 fp1 g1 r1 q1
  · rename_i i hfs
    split at p1
    · rename_i d hd
      obtain ⟨_, hv⟩ := q1
      obtain ⟨u, hu, q⟩ := r1.sl i d hd
      rw [hv] at hu
      cases hu
      refine p1 v σ H1 F1 _ g1 (r1.drop i) ⟨fp1 i, q, r1.nd i, fun j a h1 h2 => ?_, fun a ha => r1.fr i a ha⟩
      by_cases hj : j = i
      · subst hj; rw [fset_same] at h2; cases h2
      · rw [fset_ne hj] at h2
        exact hj (r1.dj j i a h2 h1)
    · exact p1.elim
theorem ss_retN : SS X cA W (.Return none pos) retN := by
  refine PS_mono ps_retN fun D σ H h => ?_
  obtain ⟨F, fp, s, r, p⟩ := h
  exact p .non σ H F fp (Same.refl F) r (Ev.fro rfl rfl)

/-! ### targets -/
/-- what a target does with shared data -/
def TgOk (X : Cx) (cA : Nat → Addr) (W : Gx) (target : Expr) (tg : D → Sl → Option Sl) (is : List Nat) : Prop :=
  ∃ t : TG, PG X target t ∧ ∀ (F : Hp) (fp : Nat → List Addr) (s s' : Sl) (σ : L2.St) (H : Hp) (d : D) (v : V) (Q : L2.St → Hp → Prop), Rl X.K cA F W.P W.pn fp s σ H → RepF X.K cA F d v → d.own = false → tg d s = some s' →
    (∀ σ' fp', Rl X.K cA F W.P W.pn fp' s' σ' H → (∀ vs, (∀ i ∈ is, i ∈ vs) → wipe σ' vs = wipe σ vs) → Q σ' H) → t v σ H Q
theorem putF {F H : Hp} {fp : Nat → List Addr} {s : Sl} {σ : L2.St} {d : D} {v : V} {i : Nat} (r : Rl X.K cA F W.P W.pn fp s σ H) (hi : i < s.length) (q : RepF X.K cA F d v) (ho : d.own = false) (hp : W.pn i = none) : Rl X.K cA F W.P W.pn (fset fp i []) (s.set i (some d)) (σ.set i (some v)) H :=
  r.put hi (Vl.frozen ho q) List.nodup_nil (fun j a z => nomatch z) (fun a z => nomatch z) (fun u z => by rw [hp] at z; cases z)
theorem wipe_set {i : Nat} {x : Option V} : ∀ {vs : List Nat} {σ : L2.St}, i ∈ vs → wipe (σ.set i x) vs = wipe σ vs
  | [], _, h => by cases h
  | v :: vs, σ, h => by
    unfold wipe
    by_cases hv : i ∈ vs
    · rw [wipe_set hv]
    · have e : i = v := by
        rcases List.mem_cons.mp h with h | h
        · exact h
        · exact absurd h hv
      subst e
      have key : ∀ {vs : List Nat} {σ : L2.St}, i ∉ vs → wipe (σ.set i x) vs = (wipe σ vs).set i x := by
        intro vs
        induction vs with
        | nil => intro σ _; rfl
        | cons u us ih =>
          intro σ hu
          unfold wipe
          rw [ih (fun z => hu (List.mem_cons_of_mem _ z)), List.set_comm _ _ (fun z => hu (by rw [z]; simp))]
      rw [key hv, List.set_set]
theorem tg_name {i : Nat} {x : Str} (hN : X.N.Nodup) (hi : X.N[i]? = some x) (hx : Loc X.env.scope x) (hf : X.fn x = true ∨ X.env.scope.names.lookup x = some .local) (hp : W.pn i = none) : TgOk X cA W (.Name x pos) (tgN i) [i] := by
  refine ⟨gName i, pg_name hN hi hx hf, fun F fp s s' σ H d v Q r q ho e hQ => ?_⟩
  unfold tgN at e
  split at e
  · rename_i hb
    cases e
    exact hQ _ _ (putF r (Nat.blt_eq.mp hb) q ho hp) fun vs h => wipe_set (h i (by simp))
  · cases e
/-- names of a tuple target -/
inductive NmOk (X : Cx) (W : Gx) : List Expr → List Nat → Prop
  | nil : NmOk X W [] []
  | cons {x : Str} {p : Pos} {i : Nat} {es : List Expr} {is : List Nat} (hi : X.N[i]? = some x) (hx : Loc X.env.scope x) (hf : X.fn x = true ∨ X.env.scope.names.lookup x = some .local) (hp : W.pn i = none) (h : NmOk X W es is) : NmOk X W (.Name x p :: es) (i :: is)
theorem assignEach_name {x : Str} {p : Pos} {es : List Expr} {env : Env} : (assignEach (.Name x p :: es) env) = (false, assign (.Name x p) env) :: assignEach es env := rfl
theorem NmOk.star {es : List Expr} {is : List Nat} {env : Env} (h : NmOk X W es is) : (assignEach es env).findIdx? (·.1) = none ∧ (assignEach es env).length = es.length := by
  induction h with
  | nil => exact ⟨rfl, rfl⟩
  | cons hi hx hf hp h ih =>
    rw [assignEach_name]
    refine ⟨?_, by rw [List.length_cons, List.length_cons, ih.2]⟩
    rw [List.findIdx?_cons, ih.1]
    rfl
theorem NmOk.len {es : List Expr} {is : List Nat} (h : NmOk X W es is) : es.length = is.length := by
  induction h with
  | nil => rfl
  | cons _ _ _ _ _ ih => rw [List.length_cons, List.length_cons, ih]
theorem NmOk.pgs (hN : X.N.Nodup) {es : List Expr} {is : List Nat} (h : NmOk X W es is) : ∃ t : TGs, PGs X es t ∧ ∀ (F : Hp) (fp : Nat → List Addr) (s s' : Sl) (σ : L2.St) (H : Hp) (ds : List D) (vs : List V) (Q : L2.St → Hp → Prop), Rl X.K cA F W.P W.pn fp s σ H → RepFs X.K cA F ds vs →
    (∀ d ∈ ds, d.own = false) → tgNs is ds s = some s' → (∀ σ' fp', Rl X.K cA F W.P W.pn fp' s' σ' H → (∀ vs, (∀ i ∈ is, i ∈ vs) → wipe σ' vs = wipe σ vs) → Q σ' H) → t vs σ H Q := by
  induction h with
  | nil =>
    refine ⟨gNil, pgs_nil, fun F fp s s' σ H ds vs Q r q ho e hQ => ?_⟩
    cases ds with
    | nil =>
      cases e
      cases (show vs = [] from q)
      exact ⟨rfl, hQ σ fp r fun _ _ => rfl⟩
    | cons d ds => cases e
  | cons hi hx hf hp h ih =>
    obtain ⟨u, hu, hq⟩ := ih
    refine ⟨gCons (gName _) u, pgs_cons (pg_name hN hi hx hf) hu rfl, fun F fp s s' σ H ds vs Q r q ho e hQ => ?_⟩
    cases ds with
    | nil => cases e
    | cons d ds =>
      obtain ⟨v, vr, rfl, q1, q2⟩ := q
      obtain ⟨s1, e1, e2⟩ := Option.bind_eq_some_iff.mp e
      unfold tgN at e1
      split at e1
      · rename_i hb
        cases e1
        exact ⟨v, vr, rfl, hq F _ _ s' _ H ds vr Q (putF r (Nat.blt_eq.mp hb) q1 (ho d (by simp)) hp) q2 (fun d' hd => ho d' (List.mem_cons_of_mem _ hd)) e2 fun σ' fp' r' hw => hQ σ' fp' r' fun vs h => (hw vs fun i hi => h i (List.mem_cons_of_mem _ hi)).trans (wipe_set (h _ (by simp)))⟩
      · cases e1
def D.flatOwn : D → Bool
  | .tup xs => xs.all fun d => !d.own
  | _ => true
def tgT' (is : List Nat) (d : D) (s : Sl) : Option Sl := if d.flatOwn then tgT is d s else none
theorem tg_tup {es : List Expr} {is : List Nat} {k : Nat} (hc : X.calm = true) (hN : X.N.Nodup) (h : NmOk X W es is) : TgOk X cA W (.Tuple es k pos) (tgT' is) is := by
  obtain ⟨t, ht, hq⟩ := h.pgs (cA := cA) hN
  have z := h.star (env := X.env)
  refine ⟨gTup X.K es.length t, pg_tup hc ht z.2 z.1, fun F fp s s' σ H d v Q r q ho e hQ => ?_⟩
  unfold tgT' at e
  split at e
  · rename_i hf
    cases d <;> simp only [tgT, reduceCtorEq] at e
    rename_i xs
    obtain ⟨a, vs, rfl, m, n⟩ := q
    have hl : ∀ {is : List Nat} {ds : List D} {s s' : Sl}, tgNs is ds s = some s' → ds.length = is.length := by
      intro is
      induction is with
      | nil => intro ds s s' e; cases ds <;> first | rfl | cases e
      | cons i is ih =>
        intro ds s s' e
        cases ds with
        | nil => cases e
        | cons d ds =>
          obtain ⟨s1, _, e2⟩ := Option.bind_eq_some_iff.mp e
          rw [List.length_cons, List.length_cons, ih e2]
    have hl2 := h.len
    refine ⟨a, vs, rfl, SqT_mono m r.fz, ?_, hq F fp s s' σ H xs vs Q r n (fun d hd => ?_) e hQ⟩
    · rw [← n.length, hl e, hl2]
    · have := List.all_eq_true.mp hf d hd
      simpa using this
  · cases e

/-! ### assignment -/
theorem ss_set {i : Nat} {x : Str} {p : Pos} (hN : X.N.Nodup) (hi : X.N[i]? = some x) (hx : Loc X.env.scope x) (hf : X.fn x = true ∨ X.env.scope.names.lookup x = some .local) (hp : W.pn i = none) (ha : SE X cA W e f)
    (hn : swapsWith e (some (.Name x p)) pos.line X.env = pure false) : SS X cA W (.Assign [.Name x p] e pos) (setS i f) := by
  refine PS_mono (ps_set hN hi hx ha hn hf) fun D σ H h => ?_
  obtain ⟨F, fp, s, r, p⟩ := h
  refine ⟨F, fp, s, r, PoS.to p fun ev s1 _ p1 v H1 F1 fp1 g1 r1 q1 => ?_⟩
  split at p1
  · split at p1
    · rename_i d hb
      obtain ⟨l, q, nd, dj, fr⟩ := q1
      exact p1 _ H1 F1 _ g1 (r1.put (Nat.blt_eq.mp hb) q nd (fun j a h1 h2 => (dj j a h1 h2).elim) fr (fun u z => by rw [hp] at z; cases z))
    · exact p1.elim
  · rename_i j hfs
    split at p1
    · rename_i x d hd
      split at p1
      · rename_i hb
        obtain ⟨_, hv⟩ := q1
        obtain ⟨u, hu, q⟩ := r1.sl j d hd
        rw [hv] at hu
        cases hu
        have r2 := r1.freeze hd
        have e2 := r1.fsame j
        have q2 : RepF X.K cA (fzn F1 H1 (fp1 j)) d.frz v := Vl.freeze e2 d v _ q (fun a ha o z => by rw [fzn_in ha]; exact z)
        exact p1 _ H1 _ _ (g1.trans e2) (putF r2 (by rw [List.length_set]; exact Nat.blt_eq.mp hb) q2 (NS.D.frz_own d) hp)
      · exact p1.elim
    · exact p1.elim
theorem ss_asg {target : Expr} {tg : D → Sl → Option Sl} {is : List Nat} (ht : TgOk X cA W target tg is) (ha : SE X cA W e f) (hs : swapsWithSole [target] e pos.line X.env = pure false) (hw : swappedStores [target] e X.env = pure none)
    (h1 : (assignEach [target] X.env).map (·.2) = [assign target X.env]) : SS X cA W (.Assign [target] e pos) (asgS tg f) := by
  obtain ⟨t, hg, hq⟩ := ht
  refine PS_mono (ps_asg ha hg hs hw h1) fun D σ H h => ?_
  obtain ⟨F, fp, s, r, p⟩ := h
  have p : PoS X.K cA W F D ((f s).to fun e s1 => match evV e.pend s1 with
    | some (d, s2) => match tg d s2 with
      | some s3 => .nx s3
      | none => .no
    | none => .no) := by
    have e : asgS tg f s = (f s).to fun e s1 => match evV e.pend s1 with
      | some (d, s2) => match tg d s2 with
        | some s3 => .nx s3
        | none => .no
      | none => .no := by
      unfold asgS penE
      cases f s <;> rfl
    rw [← e]
    exact p
  refine ⟨F, fp, s, r, PoS.to p fun ev s1 _ p1 v H1 F1 fp1 g1 r1 q1 => ?_⟩
  obtain ⟨F2, g2, r2, q2⟩ := q1.pend r1
  split at p1
  · rename_i d s2 hd
    split at p1
    · rename_i s3 hs3
      obtain ⟨F3, fp3, g3, r3, q3, ho⟩ := Ep.evV r2 q2 hd
      exact hq F3 fp3 s2 s3 σ H1 d v _ r3 q3 ho hs3 fun σ' fp' r' _ => p1 σ' H1 F3 fp' (g1.trans (g2.trans g3)) r'
    · exact p1.elim
  · exact p1.elim
end
end NS
namespace NS
open PySem PySem.Spec PyProof.Rows L2

/-! ## 9. loops -/
/-- what is walked: its items -/
def seqItems (e : EV) (s : Sl) : R (List D) := match evV e s with
  | some (.lst _ xs, s1) => .ok xs s1
  | some (.ro xs, s1) => .ok xs s1
  | some (.tup xs, s1) => .ok xs s1
  | some (.str x, s1) => .ok (x.cps.toList.map fun c => .str ⟨#[c]⟩) s1
  | _ => .no
def seqI (f : Sl → R EV) : Sl → R (List D) := penE f seqItems
def intK {β : Type} (k : Int → Sl → R β) (e : EV) (s : Sl) : R β := match evR e s with
  | some (.int i) => k i s
  | _ => .no
def upto (lo : Int) (n : Nat) : List D := (List.range n).map fun j => .int (lo + (j : Nat))
def rng1 (f : Sl → R EV) : Sl → R (List D) := penE f (intK fun j s => if decide (j ≤ 1000000000) && decide (-1000000000 ≤ j) then .ok (upto 0 j.toNat) s else .no)
def rng2 (f g : Sl → R EV) : Sl → R (List D) := bin2 f g fun e1 e2 s => intK (fun i s => intK (fun j s => if decide (j ≤ 1000000000) && decide (-1000000000 ≤ j) && decide (i ≤ 1000000000) && decide (-1000000000 ≤ i) then .ok (upto i (j - i).toNat) s else .no) e2 s) e1 s
def enumL : Nat → List D → List D
  | _, [] => []
  | i, d :: ds => .tup [.int (i : Nat), d] :: enumL (i + 1) ds
def enumI (f : Sl → R EV) : Sl → R (List D) := penE f fun e s => match evV e s with
  | some (.lst _ xs, s1) => .ok (enumL 0 xs) s1
  | _ => .no
/-- a loop over items -/
def forL (step : D → Sl → Fl) : List D → Sl → Fl
  | [], s => .nx s
  | d :: ds, s => match step d s with
    | .nx s1 => forL step ds s1
    | .ct s1 => forL step ds s1
    | .bk s1 => .nx s1
    | r => r
def stepS (tg : D → Sl → Option Sl) (body : Sl → Fl) (d : D) (s : Sl) : Fl := match tg d s with
  | some s1 => body s1
  | none => .no
def forS (g : Sl → R (List D)) (tg : D → Sl → Option Sl) (body : Sl → Fl) : Sl → Fl := fun s => (g s).to fun ds s1 => forL (stepS tg body) ds s1
def whL (c : Sl → R Bool) (body : Sl → Fl) : Nat → Sl → Fl
  | 0, _ => .no
  | n + 1, s => (c s).to fun b s1 => if b then (match body s1 with
    | .nx s2 => whL c body n s2
    | .ct s2 => whL c body n s2
    | .bk s2 => .nx s2
    | r => r) else .nx s1

section
variable (K : PySem.W.Frag) (cA : Nat → Addr)
/-- at turn i the walk yields the item -/
def Yl (F H : Hp) (d : D) (x : V) (H' : Hp) : Prop := d.own = false ∧ ((H' = H ∧ RepF K cA F d x) ∨ ∃ p vs xs, H p = none ∧ H' = upd H p (.tup vs) ∧ x = .ref p ∧ d = .tup xs ∧ RepFs K cA F xs vs)
def ItD (F : Hp) (J : It) (ds : List D) : Prop := ∀ (i : Nat) (H : Hp), Same F H → (∀ d, ds[i]? = some d → J.go i H ∧ ∀ x H', J.yld i H x H' → Yl K cA F H d x H') ∧ (ds.length = i → J.stop i H)
abbrev KI (W : Gx) (F : Hp) (σ : L2.St) (R : It → Hp → Prop) : List D → Sl → Prop := fun ds s => ∀ J H' F' fp', Same F F' → Rl K cA F' W.P W.pn fp' s σ H' → ItD K cA F' J ds → R J H'
def tI (W : Gx) (g : Sl → R (List D)) : TI := fun σ H R => ∃ F fp s, Rl K cA F W.P W.pn fp s σ H ∧ Po K cA W F σ (g s) (KI K cA W F σ R)
end
section
variable {X : Cx} {cA : Nat → Addr} {W : Gx} {e a b c tg : Expr} {es : List Expr} {f g h : Sl → R EV} {pos : Pos}
abbrev SI (X : Cx) (cA : Nat → Addr) (W : Gx) (tg iter : Expr) (g : Sl → R (List D)) : Prop := PI X tg iter (tI X.K cA W g)
theorem PI_mono {t t' : TI} {it : Expr} (h : PI X tg it t) (w : ∀ σ H R, t' σ H R → t σ H R) : PI X tg it t' := ⟨fun pins s σ H R I q => h.run pins s σ H R I (w σ H R q)⟩
theorem KI_mono {σ : L2.St} {R : It → Hp → Prop} : ∀ F F' b s, Same F F' → KI X.K cA W F σ R b s → KI X.K cA W F' σ R b s := fun F F' b s g h J H' F2 fp' g2 => h J H' F2 fp' (g.trans g2)
/-- items that are no container of one place -/
def plainL (ds : List D) : Bool := ds.all fun d => !d.own
theorem plain_at {ds : List D} {i : Nat} {d : D} (h : plainL ds = true) (e : ds[i]? = some d) : d.own = false := by
  have := List.all_eq_true.mp h d (List.mem_of_getElem? e)
  simpa using this
theorem itd_list {F : Hp} {p : Addr} {vs : List V} {ds : List D} (hs : ∀ H, Same F H → SqL X.K H p vs) (hu : ∀ H ys, Same F H → SqL X.K H p ys → vs = ys ∨ True) (n : RepFs X.K cA F ds vs) (hp : plainL ds = true) : ItD X.K cA F (Itl X.K p) ds := by
  intro i H g
  refine ⟨fun d hd => ?_, fun hl => ⟨vs, hs H g, by rw [← n.length]; exact Nat.le_of_eq hl⟩⟩
  obtain ⟨v, hv, q⟩ := n.get hd
  refine ⟨⟨vs, v, hs H g, hv⟩, fun x H' y => ?_⟩
  obtain ⟨rfl, y⟩ := y
  have := y vs (hs _ g)
  rw [hv] at this
  cases this
  exact ⟨plain_at hp hd, .inl ⟨rfl, q⟩⟩
theorem itd_tup {F : Hp} {p : Addr} {vs : List V} {ds : List D} (hs : ∀ H, Same F H → SqT X.K H p vs) (n : RepFs X.K cA F ds vs) (hp : plainL ds = true) : ItD X.K cA F (Itt X.K p) ds := by
  intro i H g
  refine ⟨fun d hd => ?_, fun hl => ⟨vs, hs H g, by rw [← n.length]; exact Nat.le_of_eq hl⟩⟩
  obtain ⟨v, hv, q⟩ := n.get hd
  refine ⟨⟨vs, v, hs H g, hv⟩, fun x H' y => ?_⟩
  obtain ⟨rfl, y⟩ := y
  have := y vs (hs _ g)
  rw [hv] at this
  cases this
  exact ⟨plain_at hp hd, .inl ⟨rfl, q⟩⟩
theorem itd_str {F : Hp} {x : Str} : ItD X.K cA F (Its x) (x.cps.toList.map fun c => .str ⟨#[c]⟩) := by
  intro i H g
  refine ⟨fun d hd => ?_, fun hl => by rw [List.length_map] at hl; exact Nat.le_of_eq hl⟩
  rw [List.getElem?_map] at hd
  obtain ⟨c, hc, rfl⟩ := Option.map_eq_some_iff.mp hd
  have hc' : x.cps[i]? = some c := by simpa using hc
  refine ⟨(Array.getElem?_eq_some_iff.mp hc').1, fun v H' y => ?_⟩
  obtain ⟨rfl, c', h1, rfl⟩ := y
  rw [hc'] at h1
  cases h1
  exact ⟨rfl, .inl ⟨rfl, rfl⟩⟩
theorem itd_rng {F : Hp} {lo : Int} {n : Nat} : ItD X.K cA F (Itr lo n) (upto lo n) := by
  intro i H g
  unfold upto
  refine ⟨fun d hd => ?_, fun hl => by rw [List.length_map, List.length_range] at hl; exact Nat.le_of_eq hl⟩
  rw [List.getElem?_map] at hd
  obtain ⟨j, hj, rfl⟩ := Option.map_eq_some_iff.mp hd
  obtain ⟨h1, h2⟩ := List.getElem?_eq_some_iff.mp hj
  rw [List.getElem_range] at h2
  subst h2
  rw [List.length_range] at h1
  refine ⟨h1, fun v H' y => ?_⟩
  obtain ⟨rfl, rfl⟩ := y
  exact ⟨rfl, .inl ⟨rfl, rfl⟩⟩

/-- plain items, or it is no loop of ours -/
def plI (g : Sl → R (List D)) : Sl → R (List D) := fun s => (g s).bind fun ds s1 => if plainL ds then .ok ds s1 else .no
/-- whatever is a list, a tuple, a text -/
def iAll (K : PySem.W.Frag) (tl : TE) : TI := fun σ H R => tl σ H fun x H1 => (∃ a, x = .ref a ∧ (∃ xs, SqL K H1 a xs) ∧ R (Itl K a) H1) ∨ (∃ a, x = .ref a ∧ (∃ xs, SqT K H1 a xs) ∧ R (Itt K a) H1) ∨ ∃ z, x = .str z ∧ R (Its z) H1
theorem pi_all {l : Expr} {tl : TE} (hl : PE X l tl) : PI X tg l (iAll X.K tl) := by
  refine ⟨fun pins s σ H R I h => ?_⟩
  have one : ∀ (x : V) (H1 : Hp) (s1 : Shared) (v : Value), Inv X pins σ H1 s1 → RelV x v → ((∃ a, x = .ref a ∧ (∃ xs, SqL X.K H1 a xs) ∧ R (Itl X.K a) H1) ∨ (∃ a, x = .ref a ∧ (∃ xs, SqT X.K H1 a xs) ∧ R (Itt X.K a) H1) ∨ ∃ z, x = .str z ∧ R (Its z) H1) →
      wpAny (model X.prog X.w) X.A (pyIter v) (PIE X pins σ tg R) X.xe s1 := by
    rintro x H1 s1 v I1 r1 (⟨a, rfl, ⟨xs, hq⟩, q⟩ | ⟨a, rfl, ⟨xs, hq⟩, q⟩ | ⟨z, rfl, q⟩)
    · cases r1
      obtain ⟨its, rv, p, hz⟩ := I1.list hq
      refine wpAny_pyIter_list p.isList ?_
      exact pi_one (tk := s1.toks) I1 _ (turn_list a _) ⟨_, Heap.get?_push_size _ rfl, rfl, rfl⟩ q
    · cases r1
      obtain ⟨its, rv, p, hz⟩ := I1.tuple hq
      refine wpAny_pyIter_tuple (show s1.heap.IsTuple a its.toArray from p) ?_
      exact pi_one (tk := s1.toks) I1 _ (turn_tuple a _) ⟨_, Heap.get?_push_size _ rfl, rfl, rfl⟩ q
    · obtain ⟨t, rfl⟩ := r1
      cases ha : z.cps.all (· < 128)
      · exact wpAny_pyIter_wide ha (pi_one (tk := s1.toks) I1 _ (turn_str _ z t "str_iterator" (.inr rfl)) ⟨_, Heap.get?_push_size _ rfl, rfl, rfl⟩ q)
      · exact wpAny_pyIter_ascii ha (pi_one (tk := s1.toks) I1 _ (turn_str _ z t "str_ascii_iterator" (.inl rfl)) ⟨_, Heap.get?_push_size _ rfl, rfl, rfl⟩ q)
  exact thn (hl.run pins s σ H _ I h) fun v s1 ⟨x, H1, I1, r1, q1⟩ => one x H1 s1 v I1 r1 q1
theorem si_seq (ha : SE X cA W e f) : SI X cA W tg e (plI (seqI f)) := by
  refine PI_mono (pi_all ha) fun σ H R h => ?_
  obtain ⟨F, fp, s, r, p⟩ := h
  have z := one_run (C := fun F => KI X.K cA W F σ R) (k := fun e s => (seqItems e s).bind fun ds s1 => if plainL ds then .ok ds s1 else .no) (f := f) KI_mono ⟨F, fp, s, r, by
    have e : plI (seqI f) s = penE f (fun e s => (seqItems e s).bind fun ds s1 => if plainL ds then .ok ds s1 else .no) s := by
      unfold plI seqI penE
      cases f s <;> rfl
    rw [← e]
    exact p⟩
  obtain ⟨F, fp, s, rl, p⟩ := z
  refine ⟨F, fp, s, rl, Po.up (Same.refl _) p fun ev s' _ z x H1 F' fp' g' r' q' => ?_⟩
  obtain ⟨F1, fp1, s1, e1, r1, q1, p1⟩ := z x H1 F' fp' g' r' q'
  dsimp only at p1
  unfold seqItems at p1
  split at p1 <;> simp only [NS.R.bind] at p1
  all_goals first | exact p1.elim | skip
  all_goals
    split at p1 <;> first | exact p1.elim | skip
  · rename_i o xs s2 hd hp
    obtain ⟨F2, fp2, g2, r2, q2, _⟩ := Ep.evV r1 q1 hd
    obtain ⟨a, vs, rfl, m, n⟩ := q2
    exact .inl ⟨a, rfl, ⟨vs, .of (r2.fz _ _ m)⟩, p1 _ H1 F2 fp2 g2 r2 (itd_list (fun H g => .of (g _ _ m)) (fun _ _ _ _ => .inr trivial) n hp)⟩
  · rename_i xs s2 hd hp
    obtain ⟨F2, fp2, g2, r2, q2, _⟩ := Ep.evV r1 q1 hd
    obtain ⟨a, vs, rfl, m, n⟩ := q2
    exact .inl ⟨a, rfl, ⟨vs, r2.fz.seq m⟩, p1 _ H1 F2 fp2 g2 r2 (itd_list (fun H g => g.seq m) (fun _ _ _ _ => .inr trivial) n hp)⟩
  · rename_i xs s2 hd hp
    obtain ⟨F2, fp2, g2, r2, q2, _⟩ := Ep.evV r1 q1 hd
    obtain ⟨a, vs, rfl, m, n⟩ := q2
    exact .inr (.inl ⟨a, rfl, ⟨vs, SqT_mono m r2.fz⟩, p1 _ H1 F2 fp2 g2 r2 (itd_tup (fun H g => SqT_mono m g) n hp)⟩)
  · rename_i x s2 hd hp
    obtain ⟨F2, fp2, g2, r2, q2, _⟩ := Ep.evV r1 q1 hd
    cases (show _ = V.str x from q2)
    exact .inr (.inr ⟨x, rfl, p1 _ H1 F2 fp2 g2 r2 itd_str⟩)
theorem si_rng1 {p : Pos} (hg : Gl X "range") (hm : X.mg "range" = none) (ha : SE X cA W a f) (hs : noStar a = true) : SI X cA W tg (.Call (.Name "range" p) [a] [] pos) (rng1 f) := by
  refine PI_mono (pi_range1 hg hm (pa_cons ha pa_nil (starEach_cons hs)) (starEach_cons hs)) fun σ H R h => ?_
  have z := one_run (C := fun F => KI X.K cA W F σ R) KI_mono h
  obtain ⟨F, fp, s, rl, p⟩ := z
  refine ⟨F, fp, s, rl, Po.up (Same.refl _) p fun ev s' _ z x H1 F' fp' g' r' q' => ?_⟩
  obtain ⟨F1, fp1, s1, e1, r1, q1, p1⟩ := z x H1 F' fp' g' r' q'
  unfold intK at p1
  split at p1
  · rename_i j hj
    dsimp only at p1
    split at p1
    · rename_i hb
      rw [Bool.and_eq_true] at hb
      have b1 := of_decide_eq_true hb.1
      have b2 := of_decide_eq_true hb.2
      exact ⟨j, by rw [int_of r1 q1 hj], by omega, by omega, p1 _ H1 F1 fp1 (Same.refl _) r1 itd_rng⟩
    · exact p1.elim
  · exact p1.elim
theorem si_rng2 {p : Pos} (hg : Gl X "range") (hm : X.mg "range" = none) (ha : SE X cA W a f) (hb : SE X cA W b g) (hs : noStar a = true) (hs2 : noStar b = true) : SI X cA W tg (.Call (.Name "range" p) [a, b] [] pos) (rng2 f g) := by
  refine PI_mono (pi_range2 hg hm (pa_cons ha (pa_cons hb pa_nil (starEach_cons hs2)) (starEach_cons hs)) (by rw [starEach_cons hs, starEach_cons hs2]; rfl) (starEach_cons hs2)) fun σ H R h => ?_
  have z := bin_run (C := fun F => KI X.K cA W F σ R) KI_mono h
  obtain ⟨F, fp, s, rl, p⟩ := z
  refine ⟨F, fp, s, rl, Po.up (Same.refl _) p fun ev s' _ z x H1 F' fp' g' r' q' => ?_⟩
  obtain ⟨F2, fp2, s2, r2, p2⟩ := z x H1 F' fp' g' r' q'
  refine ⟨F2, fp2, s2, r2, Po.up (Same.refl _) p2 fun ev s' _ z y H2 F' fp' g' r' q' => ?_⟩
  obtain ⟨F3, fp3, s3, e1, e2, r3, q1, q2, p3⟩ := z y H2 F' fp' g' r' q'
  unfold intK at p3
  dsimp only at p3
  split at p3
  · rename_i i hi
    split at p3
    · rename_i j hj
      split at p3
      · rename_i hb
        rw [Bool.and_eq_true, Bool.and_eq_true, Bool.and_eq_true] at hb
        have b1 := of_decide_eq_true hb.1.1.1
        have b2 := of_decide_eq_true hb.1.1.2
        have b3 := of_decide_eq_true hb.1.2
        have b4 := of_decide_eq_true hb.2
        exact ⟨i, j, by rw [int_of r3 q1 hi, int_of r3 q2 hj], ⟨by omega, by omega, by omega, by omega⟩, p3 _ H2 F3 fp3 (Same.refl _) r3 itd_rng⟩
      · exact p3.elim
    · exact p3.elim
  · exact p3.elim
theorem enumL_get : ∀ {ds : List D} {i k : Nat} {d : D}, (enumL k ds)[i]? = some d → ∃ x, ds[i]? = some x ∧ d = .tup [.int ((k + i : Nat) : Int), x]
  | [], i, k, d, h => by simp [enumL] at h
  | y :: ds, 0, k, d, h => by
    simp only [enumL, List.getElem?_cons_zero, Option.some.injEq] at h
    exact ⟨y, rfl, h.symm⟩
  | y :: ds, i + 1, k, d, h => by
    simp only [enumL, List.getElem?_cons_succ] at h
    obtain ⟨x, h1, h2⟩ := enumL_get (i := i) h
    refine ⟨x, by simpa using h1, ?_⟩
    rw [h2, show k + 1 + i = k + (i + 1) by omega]
theorem enumL_length : ∀ {ds : List D} {k : Nat}, (enumL k ds).length = ds.length
  | [], _ => rfl
  | y :: ds, k => by
    show (enumL (k + 1) ds).length + 1 = ds.length + 1
    rw [enumL_length]
theorem si_enum {p tp : Pos} {kk : Nat} (hg : Gl X "enumerate") (hm : X.mg "enumerate" = none) (ha : SE X cA W a f) (hs : noStar a = true) : SI X cA W (.Tuple es kk tp) (.Call (.Name "enumerate" p) [a] [] pos) (enumI f) := by
  refine PI_mono (pi_enum hg hm (pa_cons ha pa_nil (starEach_cons hs)) (starEach_cons hs)) fun σ H R h => ?_
  have z := one_run (C := fun F => KI X.K cA W F σ R) KI_mono h
  obtain ⟨F, fp, s, rl, p⟩ := z
  refine ⟨F, fp, s, rl, Po.up (Same.refl _) p fun ev s' _ z x H1 F' fp' g' r' q' => ?_⟩
  obtain ⟨F1, fp1, s1, e1, r1, q1, p1⟩ := z x H1 F' fp' g' r' q'
  dsimp only at p1
  split at p1
  · rename_i o xs s2 hd
    obtain ⟨F2, fp2, g2, r2, q2, _⟩ := Ep.evV r1 q1 hd
    obtain ⟨a, vs, rfl, m, n⟩ := q2
    refine ⟨a, vs, rfl, .of (r2.fz _ _ m), p1 _ H1 F2 fp2 g2 r2 ?_⟩
    intro i H g
    refine ⟨fun d hdd => ?_, fun hl => ⟨vs, .of (g _ _ m), by rw [enumL_length] at hl; rw [← n.length]; exact Nat.le_of_eq hl⟩⟩
    obtain ⟨x, hx, rfl⟩ := enumL_get hdd
    obtain ⟨v, hv, q⟩ := n.get hx
    refine ⟨⟨vs, v, .of (g _ _ m), hv⟩, fun y H' hy => ?_⟩
    obtain ⟨T, x', rfl, hT, rfl, hx'⟩ := hy
    have e' := hx' vs (.of (g _ _ m))
    rw [hv] at e'
    cases e'
    refine ⟨rfl, .inr ⟨T, _, _, hT, rfl, rfl, rfl, .int (i : Nat), [v], rfl, ?_, v, [], rfl, q, rfl⟩⟩
    show V.int _ = V.int _
    rw [Nat.zero_add]
  · exact p1.elim

/-! ### for -/
theorem yl_rep {F : Hp} {fp : Nat → List Addr} {s : Sl} {σ : L2.St} {H H' : Hp} {d : D} {x : V} (r : Rl X.K cA F W.P W.pn fp s σ H) (y : Yl X.K cA F H d x H') : ∃ F', Same F F' ∧ Rl X.K cA F' W.P W.pn fp s σ H' ∧ RepF X.K cA F' d x := by
  obtain ⟨_, ⟨rfl, q⟩ | ⟨p, vs, xs, hp, rfl, rfl, rfl, n⟩⟩ := y
  · exact ⟨F, Same.refl F, r, q⟩
  · have e1 := same_upd (Same.free r.fz hp) (.tup vs)
    exact ⟨_, e1, r.newF hp (.tup vs), p, vs, rfl, .of upd_same, n.mono e1⟩
theorem ItD.mono {F F' : Hp} {J : It} {ds : List D} (h : ItD X.K cA F J ds) (g : Same F F') : ItD X.K cA F' J ds := by
  intro i H g2
  obtain ⟨h1, h2⟩ := h i H (g.trans g2)
  refine ⟨fun d hd => ?_, h2⟩
  obtain ⟨h3, h4⟩ := h1 d hd
  refine ⟨h3, fun x H' y => ?_⟩
  obtain ⟨ho, z⟩ := h4 x H' y
  refine ⟨ho, ?_⟩
  rcases z with ⟨rfl, q⟩ | ⟨p, vs, xs, hp, rfl, rfl, rfl, n⟩
  · exact .inl ⟨rfl, RepF.mono g _ _ q⟩
  · exact .inr ⟨p, vs, xs, hp, rfl, rfl, rfl, n.mono g⟩
theorem for_ok {is : List Nat} {F : Hp} {J : It} {ds : List D} {fp : Nat → List Addr} {s : Sl} {σ : L2.St} {H : Hp} {D' : Ends} {tt : D → Sl → Option Sl} {body : Sl → Fl} {t : TG} (hJ : ItD X.K cA F J ds)
    (ht : ∀ (F : Hp) (fp : Nat → List Addr) (s s' : Sl) (σ : L2.St) (H : Hp) (d : D) (v : V) (Q : L2.St → Hp → Prop), Rl X.K cA F W.P W.pn fp s σ H → RepF X.K cA F d v → d.own = false → tt d s = some s' → (∀ σ' fp', Rl X.K cA F W.P W.pn fp' s' σ' H → (∀ vs, (∀ i ∈ is, i ∈ vs) → wipe σ' vs = wipe σ vs) → Q σ' H) → t v σ H Q)
    (r : Rl X.K cA F W.P W.pn fp s σ H) (p : PoS X.K cA W F D' (forL (stepS tt body) ds s)) :
    ∃ Z : Nat → Nat → L2.St → Hp → Prop, (∃ m, Z 0 m σ H) ∧ ∀ i m σ H, Z i m σ H →
      (J.stop i H ∧ D'.nx σ H) ∨ (J.go i H ∧ ∃ N : L2.St → Hp → Prop, (∀ σ' H', N σ' H' → ∃ m', m' < m ∧ Z (i + 1) m' σ' H') ∧ ∀ x H', J.yld i H x H' → t x σ H' fun σ2 H2 => tS X.K cA W body { D' with nx := N, ct := N, bk := D'.nx } σ2 H2) := by
  refine ⟨fun i m σ H => m = ds.length - i ∧ i ≤ ds.length ∧ ∃ F1 fp1 s1, Same F F1 ∧ Rl X.K cA F1 W.P W.pn fp1 s1 σ H ∧ PoS X.K cA W F1 D' (forL (stepS tt body) (ds.drop i) s1), ⟨ds.length, rfl, Nat.zero_le _, F, fp, s, Same.refl F, r, p⟩, ?_⟩
  rintro i m σ1 H1 ⟨rfl, hi, F1, fp1, s1, g1, r1, p1⟩
  obtain ⟨hgo, hstop⟩ := hJ i H1 (g1.trans r1.fz)
  by_cases hlt : i < ds.length
  · have hd : ds[i]? = some ds[i] := List.getElem?_eq_getElem hlt
    obtain ⟨go, hy⟩ := hgo _ hd
    refine .inr ⟨go, fun σ' H' => ∃ F2 fp2 s2, Same F F2 ∧ Rl X.K cA F2 W.P W.pn fp2 s2 σ' H' ∧ PoS X.K cA W F2 D' (forL (stepS tt body) (ds.drop (i + 1)) s2), fun σ' H' h => ⟨ds.length - (i + 1), by omega, rfl, hlt, h⟩, fun x H' y => ?_⟩
    rw [List.drop_eq_getElem_cons hlt] at p1
    obtain ⟨ho, z⟩ := hy x H' y
    have y1 : Yl X.K cA F1 H1 ds[i] x H' := by
      refine ⟨ho, ?_⟩
      rcases z with ⟨rfl, q⟩ | ⟨p, vs, xs, hp, rfl, rfl, e, n⟩
      · exact .inl ⟨rfl, RepF.mono g1 _ _ q⟩
      · exact .inr ⟨p, vs, xs, hp, rfl, rfl, e, n.mono g1⟩
    obtain ⟨F2, g2, r2, q2⟩ := yl_rep r1 y1
    have p2 : PoS X.K cA W F1 D' (match stepS tt body ds[i] s1 with
      | .nx s1 => forL (stepS tt body) (ds.drop (i + 1)) s1
      | .ct s1 => forL (stepS tt body) (ds.drop (i + 1)) s1
      | .bk s1 => .nx s1
      | r => r) := p1
    unfold stepS at p2
    cases hs : tt ds[i] s1 with
    | none => rw [hs] at p2; exact p2.elim
    | some s2 =>
      rw [hs] at p2
      refine ht F2 fp1 s1 s2 σ1 H' ds[i] x _ r2 q2 ho hs fun σ' fp' r' _ => ⟨F2, fp', s2, r', ?_⟩
      have p3 := PoS.up g2 p2
      dsimp only at p3
      cases hb : body s2 with
      | nx s3 => rw [hb] at p3; exact fun σ3 H3 F3 fp3 g3 r3 => ⟨F3, fp3, s3, g1.trans (g2.trans g3), r3, p3.up g3⟩
      | ct s3 => rw [hb] at p3; exact fun σ3 H3 F3 fp3 g3 r3 => ⟨F3, fp3, s3, g1.trans (g2.trans g3), r3, p3.up g3⟩
      | bk s3 => rw [hb] at p3; exact p3
      | rt d s3 => rw [hb] at p3; exact p3
      | ex x s3 => rw [hb] at p3; exact p3
      | no => rw [hb] at p3; exact p3
  · have e : i = ds.length := by omega
    subst e
    rw [List.drop_length] at p1
    exact .inl ⟨hstop rfl, p1 σ1 H1 F1 fp1 (Same.refl _) r1⟩
theorem ss_for {is : List Nat} {iter : Expr} {body : List Stmt} {gi : Sl → R (List D)} {tt : D → Sl → Option Sl} {fb : Sl → Fl} (hp : PassesOwn (model X.prog X.w) X.A X.env X.xe) (hc : X.calm = true) (hi : SI X cA W tg iter gi) (hg : TgOk X cA W tg tt is) (hb : SSs X cA W body fb) (hs : notSet iter = true) :
    SS X cA W (.For tg iter body [] pos) (forS gi tt fb) := by
  obtain ⟨t, ht, hq⟩ := hg
  refine PS_mono (ps_for hp hc hi ht hb (folded_eq hs)) fun D σ H h => ?_
  obtain ⟨F, fp, s, r, p⟩ := h
  exact ⟨F, fp, s, r, PoS.to p fun ds s1 _ p1 J H1 F1 fp1 g1 r1 hJ => for_ok hJ hq r1 (p1.up g1)⟩
theorem ss_while {body : List Stmt} {tc : Sl → R Bool} {fb : Sl → Fl} {n : Nat} (hp : PassesOwn (model X.prog X.w) X.A X.env X.xe) (hc : ST X cA W c tc) (hb : SSs X cA W body fb) : SS X cA W (.While c body [] pos) (whL tc fb n) := by
  refine PS_mono (ps_while hp hc hb) fun D σ H h => ?_
  obtain ⟨F, fp, s, r, p⟩ := h
  refine ⟨fun m σ H => ∃ F fp s, Rl X.K cA F W.P W.pn fp s σ H ∧ PoS X.K cA W F D (whL tc fb m s), ⟨n, F, fp, s, r, p⟩, ?_⟩
  rintro m σ1 H1 ⟨F1, fp1, s1, r1, p1⟩
  cases m with
  | zero => exact p1.elim
  | succ m =>
    refine ⟨F1, fp1, s1, r1, PoS.to p1 fun b s2 _ p2 H2 F2 fp2 g2 r2 => ?_⟩
    cases b with
    | false => exact iteF (p2 σ1 H2 F2 fp2 g2 r2)
    | true =>
      refine iteT ⟨fun σ' H' => ∃ F fp s, Rl X.K cA F W.P W.pn fp s σ' H' ∧ PoS X.K cA W F D (whL tc fb m s), fun σ' H' h => ⟨m, Nat.lt_succ_self m, h⟩, F2, fp2, s2, r2, ?_⟩
      have p3 := PoS.up g2 p2
      simp only [if_true] at p3
      cases hb : fb s2 with
      | nx s3 => rw [hb] at p3; exact fun σ3 H3 F3 fp3 g3 r3 => ⟨F3, fp3, s3, r3, p3.up g3⟩
      | ct s3 => rw [hb] at p3; exact fun σ3 H3 F3 fp3 g3 r3 => ⟨F3, fp3, s3, r3, p3.up g3⟩
      | bk s3 => rw [hb] at p3; exact p3
      | rt d s3 => rw [hb] at p3; exact p3
      | ex x s3 => rw [hb] at p3; exact p3
      | no => rw [hb] at p3; exact p3
end
/-! ### zip of two, lists or tuples -/
def D.zit : D → Option (List D)
  | .lst _ xs => some xs
  | .tup xs => some xs
  | _ => none
def SqM (K : PySem.W.Frag) (t : Bool) (H : Hp) (a : Addr) (xs : List V) : Prop := match t with
  | true => SqT K H a xs
  | false => SqL K H a xs
def ItAt (t : Bool) (h : Heap) (it a : Addr) (i : Nat) : Prop := match t with
  | true => h.IsTupleIter it a i
  | false => h.IsListIter it a i
def SeqAt (t : Bool) (h : Heap) (a : Addr) (its : Array Value) : Prop := match t with
  | true => h.IsTuple a its
  | false => h.IsList a its
def itObj (t : Bool) (a : Addr) : Obj := match t with
  | true => { cls := .type "tuple_iterator", data := .fields #[.ref a, .int 0 0] }
  | false => { cls := .type "list_iterator", data := .fields #[.ref a, .int 0 0] }
theorem sqm_at {X : Cx} {pins : List (Addr × Obj)} {σ : L2.St} {H : Hp} {s : Shared} (I : Inv X pins σ H s) {t : Bool} {a : Addr} {xs : List V} (h : SqM X.K t H a xs) : ∃ its : List Value, Vals xs its ∧ SeqAt t s.heap a its.toArray := by
  cases t with
  | true => obtain ⟨its, r, p, _⟩ := I.tuple h; exact ⟨its, r, p⟩
  | false => obtain ⟨its, r, p, _⟩ := I.list h; exact ⟨its, r, p.isList⟩
theorem sqm_inj {X : Cx} {pins : List (Addr × Obj)} {σ : L2.St} {H : Hp} {s : Shared} (I : Inv X pins σ H s) {t : Bool} {a : Addr} {xs ys : List V} (h : SqM X.K t H a xs) (h' : SqM X.K t H a ys) : xs = ys := by
  cases t with
  | true => exact I.tuple_inj h h'
  | false => exact I.list_inj h h'
theorem drw {P : Program} {w : World} {A : Around} (hh : A.handled = none) (t : Bool) (it a : Addr) (hne : a ≠ it) (its : Array Value) : Draws P w A it [it, a] its.size (fun i v => its[i]? = some v) (fun i h => ItAt t h it a i ∧ SeqAt t h a its) := by
  cases t with
  | true => exact Draws.tuple hh it a hne its
  | false => exact Draws.list hh it a hne its
theorem bgn (t : Bool) (a : Addr) (its : Array Value) : Begins (.ref a) (itObj t a) fun h => SeqAt t h a its := by
  cases t with
  | true => exact begins_tuple a its
  | false => exact begins_list a its
theorem seqAt_lt {t : Bool} {h : Heap} {a : Addr} {its : Array Value} (p : SeqAt t h a its) : a < h.objs.size := by
  cases t with
  | true => obtain ⟨o, e, _⟩ := id p; exact Heap.lt_size e
  | false => obtain ⟨o, e, _⟩ := id p; exact Heap.lt_size e
theorem itAt_of {t : Bool} {h : Heap} {it a : Addr} (e : h.get? it = some (itObj t a)) : ItAt t h it a 0 := by
  cases t with
  | true => exact ⟨_, e, rfl, rfl⟩
  | false => exact ⟨_, e, rfl, rfl⟩
theorem itAt_obj {t : Bool} {h : Heap} {it a : Addr} {i : Nat} (p : ItAt t h it a i) : ∃ o, h.get? it = some o ∧ ∀ v, o.data ≠ .cell v := by
  cases t with
  | true => obtain ⟨o, e, _, d⟩ := id p; exact ⟨o, e, fun v q => by rw [d] at q; cases q⟩
  | false => obtain ⟨o, e, _, d⟩ := id p; exact ⟨o, e, fun v q => by rw [d] at q; cases q⟩
theorem itAt_keep {t : Bool} {h h' : Heap} {it a : Addr} {i : Nat} (p : ItAt t h it a i) (k : ∀ o, h.get? it = some o → h'.get? it = some o) : ItAt t h' it a i := by
  cases t with
  | true => exact Heap.IsTupleIter.at p k
  | false => exact Heap.IsListIter.at p k
/-- both as they stand at each turn, the items in new pairs -/
def ItzM (K : PySem.W.Frag) (t u : Bool) (a b : Addr) : It :=
  ⟨fun i H => ∃ (xs ys : List V) (x y : V), SqM K t H a xs ∧ SqM K u H b ys ∧ xs[i]? = some x ∧ ys[i]? = some y,
    fun i H v H' => ∃ T x y, v = .ref T ∧ H T = none ∧ H' = upd H T (.tup [x, y]) ∧ (∀ xs, SqM K t H a xs → xs[i]? = some x) ∧ ∀ ys, SqM K u H b ys → ys[i]? = some y,
    fun i H => ∃ xs ys : List V, SqM K t H a xs ∧ SqM K u H b ys ∧ min xs.length ys.length = i⟩
/-- the walk's own cells at turn i (N: the first of them) -/
def ZpAt (t u : Bool) (N a b : Addr) (i : Nat) (h : Heap) : Prop := IsZip h (N + 4) (N + 2) (N + 3) .none ∧ IsTupOf2 h (N + 2) (.ref N) (.ref (N + 1)) ∧ (∃ a1 a2, IsTupOf2 h (N + 3) a1 a2) ∧ ItAt t h N a i ∧ ItAt u h (N + 1) b i
theorem turn_zipM {P : Program} {w : World} {K : PySem.W.Frag} {elts : List Expr} {kk : Nat} {tpos : Pos} {t u : Bool} {N a b : Addr} (ha : a < N) (hb : b < N) : Turn P w K (.Tuple elts kk tpos) (ItzM K t u a b) [N + 4, N + 2, N + 3, N, N + 1] (N + 4) (ZpAt t u N a b) where
  mem := by simp
  obj := fun i h st c hc => by
    obtain ⟨hz, hTI, ⟨x, y, hTO⟩, h1, h2⟩ := st
    simp only [List.mem_cons, List.not_mem_nil, or_false] at hc
    rcases hc with rfl | rfl | rfl | rfl | rfl
    · exact ⟨_, hz, fun v q => nomatch q⟩
    · obtain ⟨o, e, d⟩ : ∃ o, h.get? (N + 2) = some o ∧ ∀ v, o.data ≠ .cell v := ⟨_, hTI, fun v q => nomatch q⟩
      exact ⟨o, e, d⟩
    · obtain ⟨o, e, d⟩ : ∃ o, h.get? (N + 3) = some o ∧ ∀ v, o.data ≠ .cell v := ⟨_, hTO, fun v q => nomatch q⟩
      exact ⟨o, e, d⟩
    · exact itAt_obj h1
    · exact itAt_obj h2
  keep := fun i h h' st k => by
    obtain ⟨hz, hTI, ⟨x, y, hTO⟩, h1, h2⟩ := st
    exact ⟨k _ (by simp) _ hz, k _ (by simp) _ hTI, ⟨x, y, k _ (by simp) _ hTO⟩, itAt_keep h1 fun o q => k _ (by simp) o q, itAt_keep h2 fun o q => k _ (by simp) o q⟩
  item := by
    intro X hP hw hK hc i pins s σ H E I hf st hg
    subst hP hw hK
    obtain ⟨hz, hTI, hTO, h1, h2⟩ := st
    obtain ⟨xs, ys, x, y, hqx, hqy, hx, hy⟩ := hg
    obtain ⟨its, rv, p⟩ := sqm_at I hqx
    obtain ⟨its2, rv2, p2⟩ := sqm_at I hqy
    obtain ⟨v1, hv1, ru⟩ := rv.get hx
    obtain ⟨v2, hv2, ru2⟩ := rv2.get hy
    have hh : X.A.in1.handled = none := I.ok.hd hc
    have D1 := drw (P := X.prog) (w := X.w) hh t N a (Nat.ne_of_lt ha) its.toArray
    have D2 := drw (P := X.prog) (w := X.w) hh u (N + 1) b (Nat.ne_of_lt (Nat.lt_succ_of_lt hb)) its2.toArray
    have S := zip_sep2 (N := N) (fp1 := [a]) (fp2 := [b]) (by simpa using ha) (by simpa using hb)
    have W := GoesN.zip2 (elts := elts) (x1 := kk) (pos := tpos) S D1 D2
    have hi : i < min its.toArray.size its2.toArray.size := by
      have e1 := (List.getElem?_eq_some_iff.mp hv1).1
      have e2 := (List.getElem?_eq_some_iff.mp hv2).1
      simp only [List.size_toArray]
      omega
    refine W.goes i s (fun v s2 => ∃ x H', Inv X pins σ H' s2 ∧ RelV x v ∧ (ItzM X.K t u a b).yld i H x H' ∧ ZpAt t u N a b (i + 1) s2.heap ∧ ∀ b ∈ [N + 4, N + 2, N + 3, N, N + 1], H' b = none) E hi ⟨hz, hTI, hTO, ⟨h1, p⟩, h2, p2⟩ ?_
    rintro v h' tk ⟨T, w1, w2, rfl, hT, e1, e2, hTp⟩ ⟨z1, z2, z3, ⟨z4, _⟩, z5, _⟩ hk htk
    have f1 : w1 = v1 := by
      have : its.toArray[i]? = some v1 := by simpa using hv1
      rw [this] at e1
      exact (Option.some.inj e1).symm
    have f2 : w2 = v2 := by
      have : its2.toArray[i]? = some v2 := by simpa using hv2
      rw [this] at e2
      exact (Option.some.inj e2).symm
    subst f1 f2
    have hfr : H T = none := I.hok.fresh hT
    have new : ObjOk X.prog X.w (upd H T (.tup [x, y])) h' T (.tup [x, y]) := ⟨by show 2 ≤ sizeLine; decide, [w1, w2], .cons ru (.cons ru2 .nil), hTp⟩
    have I1 : Inv X pins σ (upd H T (.tup [x, y])) { s with heap := h', toks := tk } :=
      I.turnedNew (t' := tk) (ch := [N + 4, N + 2, N + 3, N, N + 1]) (fun c o hb' q => hk c o (fun z => hb' (by simp only [List.mem_cons, List.not_mem_nil, or_false] at z ⊢; rcases z with h | h | h | h <;> simp [h])) q) hf hT new
    refine ⟨.ref T, _, I1, rfl, ⟨T, x, y, rfl, hfr, rfl, fun l hl => by rw [sqm_inj I hl hqx]; exact hx, fun l hl => by rw [sqm_inj I hl hqy]; exact hy⟩, ⟨z1, z2, z3, z4, z5⟩, fun c hcm => ?_⟩
    have hlt : c < s.heap.objs.size := by
      simp only [List.mem_cons, List.not_mem_nil, or_false] at hcm
      rcases hcm with rfl | rfl | rfl | rfl | rfl
      · exact Heap.lt_size hz
      · exact Heap.lt_size hTI
      · obtain ⟨_, _, e⟩ := hTO; exact Heap.lt_size e
      · obtain ⟨_, e, _⟩ := itAt_obj h1; exact Heap.lt_size e
      · obtain ⟨_, e, _⟩ := itAt_obj h2; exact Heap.lt_size e
    rw [upd_ne (Nat.ne_of_lt (Nat.lt_of_lt_of_le hlt hT))]
    exact (hf c hcm).1
  done := by
    intro X hP hw hK hc i pins s σ H E I hf st hg
    subst hP hw hK
    obtain ⟨hz, hTI, hTO, h1, h2⟩ := st
    obtain ⟨xs, ys, hqx, hqy, hend⟩ := hg
    obtain ⟨its, rv, p⟩ := sqm_at I hqx
    obtain ⟨its2, rv2, p2⟩ := sqm_at I hqy
    have hh : X.A.in1.handled = none := I.ok.hd hc
    have D1 := drw (P := X.prog) (w := X.w) hh t N a (Nat.ne_of_lt ha) its.toArray
    have D2 := drw (P := X.prog) (w := X.w) hh u (N + 1) b (Nat.ne_of_lt (Nat.lt_succ_of_lt hb)) its2.toArray
    have S := zip_sep2 (N := N) (fp1 := [a]) (fp2 := [b]) (by simpa using ha) (by simpa using hb)
    have W := GoesN.zip2 (elts := elts) (x1 := kk) (pos := tpos) S D1 D2
    have l1 := rv.length
    have l2 := rv2.length
    have e : min its.toArray.size its2.toArray.size = i := by
      simp only [List.size_toArray]
      omega
    rw [e] at W
    exact W.stops s (fun s1 => Inv X pins σ H s1) E ⟨hz, hTI, hTO, ⟨h1, p⟩, h2, p2⟩ fun h' tk hk htk => I.turnedL (t' := tk) (ch := [N + 4, N + 2, N + 3, N, N + 1]) (fun c o hb' q => hk c o (fun z => hb' (by simp only [List.mem_cons, List.not_mem_nil, or_false] at z ⊢; rcases z with h | h | h | h <;> simp [h])) q) hf
  self := fun A i s Q E st h => wpAny_pyIter_zip st.1 h
def iZipM (K : PySem.W.Frag) (ta : TA) : TI := fun σ H R => ta σ H fun vs H1 => ∃ t u a b xs ys, vs = [.ref a, .ref b] ∧ SqM K t H1 a xs ∧ SqM K u H1 b ys ∧ R (ItzM K t u a b) H1
theorem pi_zipM {X : Cx} {e e2 : Expr} {ta : TA} {p pos tpos : Pos} {elts : List Expr} {kk : Nat} (hg : Gl X "zip") (hm : X.mg "zip" = none) (ha : PA X [e, e2] ta) (h1 : noStar e = true) (h2 : noStar e2 = true) :
    PI X (.Tuple elts kk tpos) (.Call (.Name "zip" p) [e, e2] [] pos) (iZipM X.K ta) := by
  refine ⟨fun pins s σ H R I h => ?_⟩
  have hs : starEach [e, e2] X.env = (false, eval e X.env) :: starEach [e2] X.env := starEach_cons h1
  have hpl : (backTo pos (starEach [e2] X.env)).any (·.1) = false := back_plain (by rw [List.all_cons, h2]; rfl)
  refine Call_ (ld_blt I hg hm PyProof.Rows.boot_zip (PyProof.Rows.callWith_type1 (thn (ha.run pos pins s σ H _ I h) fun us s1 ⟨vs, H1, I1, r1, q1⟩ => ?_) hs hpl))
  obtain ⟨t, u, a, b, xs, ys, rfl, hqx, hqy, q⟩ := q1
  cases r1 with
  | cons r rr =>
    cases rr with
    | cons r' rr =>
      cases rr
      cases r
      cases r'
      obtain ⟨its, rv, pa⟩ := sqm_at I1 hqx
      obtain ⟨its2, rv2, pb⟩ := sqm_at I1 hqy
      refine zip_begins2 (bgn t a its.toArray) (bgn u b its2.toArray) pa pb fun h' hz hTI hTO e1 e2 hsz hk => wpAny_pyIter_zip hz ?_
      have I2 : Inv X pins σ H1 { s1 with heap := h' } := I1.kept (t' := s1.toks) hk
      refine ⟨_, [s1.heap.objs.size + 4, s1.heap.objs.size + 2, s1.heap.objs.size + 3, s1.heap.objs.size, s1.heap.objs.size + 1], _, _, H1, rfl, I2, turn_zipM (t := t) (u := u) (seqAt_lt pa) (seqAt_lt pb), ⟨hz, hTI, ⟨_, _, hTO⟩, itAt_of e1, itAt_of e2⟩, fun c hc => ?_, q⟩
      have hle : s1.heap.objs.size ≤ c := by
        simp only [List.mem_cons, List.not_mem_nil, or_false] at hc
        rcases hc with z | z | z | z | z
        · rw [z]; exact Nat.le_add_right _ _
        · rw [z]; exact Nat.le_add_right _ _
        · rw [z]; exact Nat.le_add_right _ _
        · rw [z]; exact Nat.le_refl _
        · rw [z]; exact Nat.le_add_right _ _
      exact I1.fpOk hle (I1.hok.fresh hle)
/-- the items of two, in pairs -/
def zipL (xs ys : List D) : List D := List.zipWith (fun x y => D.tup [x, y]) xs ys
def zipI (f g : Sl → R EV) : Sl → R (List D) := fun s => (argsE [f, g] s).bind fun es s1 => match evVs es s1 with
  | some ([d1, d2], s2) => match d1.zit, d2.zit with
    | some xs, some ys => .ok (zipL xs ys) s2
    | _, _ => .no
  | _ => .no
theorem zit_at {K : PySem.W.Frag} {cA : Nat → Addr} {F : Hp} {d : D} {xs : List D} {v : V} (h : RepF K cA F d v) (hz : d.zit = some xs) : ∃ t a us, v = .ref a ∧ (∀ H, Same F H → SqM K t H a us) ∧ RepFs K cA F xs us := by
  cases d <;> simp only [D.zit, reduceCtorEq, Option.some.injEq] at hz
  · subst hz
    obtain ⟨a, us, rfl, m, n⟩ := h
    exact ⟨true, a, us, rfl, fun H g => SqT_mono m g, n⟩
  · subst hz
    obtain ⟨a, us, rfl, m, n⟩ := h
    exact ⟨false, a, us, rfl, fun H g => .of (g _ _ m), n⟩
theorem itd_zip {X : Cx} {cA : Nat → Addr} {F : Hp} {t u : Bool} {a b : Addr} {xs ys : List D} {us ws : List V} (m1 : ∀ H, Same F H → SqM X.K t H a us) (m2 : ∀ H, Same F H → SqM X.K u H b ws) (n1 : RepFs X.K cA F xs us) (n2 : RepFs X.K cA F ys ws) : ItD X.K cA F (ItzM X.K t u a b) (zipL xs ys) := by
  intro i H g
  refine ⟨fun d hd => ?_, fun hl => ⟨us, ws, m1 H g, m2 H g, ?_⟩⟩
  · unfold zipL at hd
    obtain ⟨x, y, hx, hy, rfl⟩ : ∃ x y, xs[i]? = some x ∧ ys[i]? = some y ∧ d = .tup [x, y] := by
      rw [List.getElem?_zipWith] at hd
      cases h1 : xs[i]? with
      | none => rw [h1] at hd; cases hd
      | some x =>
        cases h2 : ys[i]? with
        | none => rw [h1, h2] at hd; cases hd
        | some y =>
          rw [h1, h2] at hd
          cases hd
          exact ⟨x, y, rfl, rfl, rfl⟩
    obtain ⟨v, hv, q1⟩ := n1.get hx
    obtain ⟨v', hv', q2⟩ := n2.get hy
    refine ⟨⟨us, ws, v, v', m1 H g, m2 H g, hv, hv'⟩, fun z H' hz => ?_⟩
    obtain ⟨T, w1, w2, rfl, hT, rfl, e1, e2⟩ := hz
    have f1 := e1 us (m1 H g)
    have f2 := e2 ws (m2 H g)
    rw [hv] at f1
    rw [hv'] at f2
    cases f1
    cases f2
    exact ⟨rfl, .inr ⟨T, _, _, hT, rfl, rfl, rfl, v, [v'], rfl, q1, v', [], rfl, q2, rfl⟩⟩
  · unfold zipL at hl
    rw [List.length_zipWith] at hl
    rw [← n1.length, ← n2.length]
    exact hl
theorem si_zip {X : Cx} {cA : Nat → Addr} {W : Gx} {a b : Expr} {f g : Sl → R EV} {p pos tpos : Pos} {elts : List Expr} {kk : Nat} (hg : Gl X "zip") (hm : X.mg "zip" = none) (ha : SE X cA W a f) (hb : SE X cA W b g) (h1 : noStar a = true) (h2 : noStar b = true) : SI X cA W (.Tuple elts kk tpos) (.Call (.Name "zip" p) [a, b] [] pos) (zipI f g) := by
  refine PI_mono (pi_zipM hg hm (sa_cons ha (sa_cons hb sa_nil h2) h1) h1 h2) fun σ H R h => ?_
  obtain ⟨F, fp, s, r, p⟩ := h
  refine ⟨F, fp, s, r, Po.bind p fun es1 s1 _ p1 vs H1 F1 fp1 g1 r1 q1 => ?_⟩
  split at p1
  · rename_i d1 d2 s2 hd
    obtain ⟨F2, fp2, g2, r2, q2⟩ := Eps.evVs r1 q1 hd
    obtain ⟨v1, vr, rfl, w1, v2, vr2, rfl, w2, w3⟩ := q2
    cases (show vr2 = [] from w3)
    split at p1
    · rename_i xs ys z1 z2
      obtain ⟨t, a1, us, rfl, m1, n1⟩ := zit_at w1 z1
      obtain ⟨u, b1, ws, rfl, m2, n2⟩ := zit_at w2 z2
      exact ⟨t, u, a1, b1, us, ws, rfl, m1 H1 r2.fz, m2 H1 r2.fz, p1 _ H1 F2 fp2 (g1.trans g2) r2 (itd_zip m1 m2 n1 n2)⟩
    · exact p1.elim
  · exact p1.elim
end NS
namespace NS
open PySem PySem.Spec PyProof.Rows L2

/-! ## 10. list comprehensions -/
/-- slots forgotten -/
def wipeS (s : Sl) : List Nat → Sl
  | [] => s
  | v :: vs => (wipeS s vs).set v none
def lcL (tt : D → Sl → Option Sl) (vs : List Nat) (c : Sl → R Bool) (f : Sl → R EV) : List D → Sl → List D → R (List D)
  | [], s, acc => .ok acc s
  | d :: ds, s, acc => match tt d (wipeS s vs) with
    | none => .no
    | some s1 => match c s1 with
      | .ok true s2 => match penE f (fun e s => .ok e s) s2 with
        | .ok e s3 => match evV e s3 with
          | some (d', s4) => if fits (acc.length + 1) then lcL tt vs c f ds s4 (acc ++ [d']) else .no
          | none => .no
        | _ => .no
      | .ok false s2 => lcL tt vs c f ds s2 acc
      | _ => .no
def lcE (g : Sl → R (List D)) (tt : D → Sl → Option Sl) (vs : List Nat) (c : Sl → R Bool) (f : Sl → R EV) : Sl → R EV := fun s => (g s).bind fun ds s1 => (lcL tt vs c f ds s1 []).bind fun acc s2 => .ok (.val (.lst true acc)) (wipeS s2 vs)
def yesT : Sl → R Bool := fun s => .ok true s

section
variable {X : Cx} {cA : Nat → Addr} {W : Gx} {e a b c tg : Expr} {es : List Expr} {f g h : Sl → R EV} {pos : Pos}
theorem Rl.wipe {F H : Hp} {fp : Nat → List Addr} {s : Sl} {σ : L2.St} (r : Rl X.K cA F W.P W.pn fp s σ H) : ∀ {vs : List Nat}, (∀ i ∈ vs, W.pn i = none) → ∃ fp', Rl X.K cA F W.P W.pn fp' (wipeS s vs) (L2.wipe σ vs) H ∧ ∀ i, fp' i = fp i ∨ fp' i = []
  | [], _ => ⟨fp, r, fun _ => .inl rfl⟩
  | v :: vs, h => by
    obtain ⟨fp', r', e'⟩ := Rl.wipe r (vs := vs) fun i hi => h i (List.mem_cons_of_mem _ hi)
    refine ⟨_, r'.dropB (h v (by simp)), fun i => ?_⟩
    by_cases hi : i = v
    · subst hi; exact .inr fset_same
    · rw [fset_ne hi]; exact e' i
theorem wipeS_length (s : Sl) : ∀ vs : List Nat, (wipeS s vs).length = s.length
  | [] => rfl
  | v :: vs => by unfold wipeS; rw [List.length_set, wipeS_length s vs]
/-- back in the def's slots -/
theorem Rl.unwipe {F H H0 F0 : Hp} {fp fp0 : Nat → List Addr} {s s0 : Sl} {σ : L2.St} {vs : List Nat} (r : Rl X.K cA F W.P W.pn fp s (L2.wipe σ vs) H) (r0 : Rl X.K cA F0 W.P W.pn fp0 s0 σ H0) : Rl X.K cA F W.P W.pn fp s σ H :=
  ⟨by rw [r.len, wipe_length], r.fz, r.pr, fun i d h => let ⟨v, h1, h2⟩ := r.sl i d h; ⟨v, (wipe_some h1).1, h2⟩, r.nl, r.nd, r.dj, r.fr, r0.pn, r.fd⟩
/-- a block's wishes: nothing is raised -/
abbrev Gx.blk (W : Gx) (P : Hp) : Gx := ⟨fun _ _ _ _ => False, P, W.pn⟩
def tEB (X : Cx) (cA : Nat → Addr) (W : Gx) (f : Sl → R EV) : TE := fun σ H Q => ∃ P, tE X.K cA (W.blk P) f σ H Q
def tTB (X : Cx) (cA : Nat → Addr) (W : Gx) (f : Sl → R Bool) : TT := fun σ H Q => ∃ P, tT X.K cA (W.blk P) f σ H Q
theorem peB {Y : Cx} (hK : Y.K = X.K) (h : ∀ P, SE Y cA (W.blk P) e f) : PE Y e (tEB X cA W f) := ⟨fun pins s σ H Q I ⟨P, q⟩ => (h P).run pins s σ H Q I (by rw [hK]; exact q)⟩
theorem ptB {Y : Cx} {tf : Sl → R Bool} (hK : Y.K = X.K) (h : ∀ P, ST Y cA (W.blk P) e tf) : PT Y e (tTB X cA W tf) := ⟨fun pins s σ H Q I ⟨P, q⟩ => (h P).run pins s σ H Q I (by rw [hK]; exact q)⟩
/-- the block's target -/
structure TgB (X : Cx) (cA : Nat → Addr) (W : Gx) (tg : Expr) (tt : D → Sl → Option Sl) (is : List Nat) (t : TG) : Prop where
  ok : ∀ (P F : Hp) (fp : Nat → List Addr) (s s' : Sl) (σ : L2.St) (H : Hp) (d : D) (v : V) (Q : L2.St → Hp → Prop), Rl X.K cA F P W.pn fp s σ H → RepF X.K cA F d v → d.own = false → tt d s = some s' →
    (∀ σ' fp', Rl X.K cA F P W.pn fp' s' σ' H → (∀ vs, (∀ i ∈ is, i ∈ vs) → L2.wipe σ' vs = L2.wipe σ vs) → Q σ' H) → t v σ H Q
theorem wipe_wipe {vs : List Nat} : ∀ {us : List Nat} {σ : L2.St}, (∀ i ∈ us, i ∈ vs) → L2.wipe (L2.wipe σ us) vs = L2.wipe σ vs
  | [], _, _ => rfl
  | u :: us, σ, h => by
    show L2.wipe ((L2.wipe σ us).set u none) vs = _
    rw [wipe_set (h u (by simp))]
    exact wipe_wipe fun i hi => h i (List.mem_cons_of_mem _ hi)
/-- .. where more stands still than what is shared -/
def ItG (K : PySem.W.Frag) (cA : Nat → Addr) (F G : Hp) (J : It) (ds : List D) : Prop := ∀ (i : Nat) (H : Hp), Same G H → (∀ d, ds[i]? = some d → J.go i H ∧ ∀ x H', J.yld i H x H' → Yl K cA F H d x H') ∧ (ds.length = i → J.stop i H)
theorem Yl.mono {F F' H H' : Hp} {d : D} {x : V} (y : Yl X.K cA F H d x H') (g : Same F F') : Yl X.K cA F' H d x H' := by
  obtain ⟨ho, z⟩ := y
  refine ⟨ho, ?_⟩
  rcases z with ⟨rfl, q⟩ | ⟨p, us, xs, hp, rfl, rfl, e, n⟩
  · exact .inl ⟨rfl, RepF.mono g _ _ q⟩
  · exact .inr ⟨p, us, xs, hp, rfl, rfl, e, n.mono g⟩
theorem lc_okG {F0 F P' H0 G : Hp} {C : List D → Sl → Prop} {J : It} {ds : List D} {fp : Nat → List Addr} {s : Sl} {σ : L2.St} {H1 : Hp} {A : Addr} {Q : VK} {tt : D → Sl → Option Sl} {vs is : List Nat} {tc : Sl → R Bool} {t : TG} (hJ : ItG X.K cA F G J ds) (hG : ∀ (F1 : Hp) (fp1 : Nat → List Addr) (s1 : Sl) (σ1 : L2.St) (H : Hp), Same F F1 → Rl X.K cA F1 W.P W.pn fp1 s1 σ1 H → Same G H) (hv : ∀ i ∈ vs, W.pn i = none) (hi : ∀ i ∈ is, i ∈ vs)
    (ht : TgB X cA W tg tt is t) (r : Rl X.K cA F W.P W.pn fp s σ H1) (hA : H1 A = none)
    (p : Po X.K cA W F σ (lcL tt vs tc f ds s []) C)
    (hC : ∀ (acc : List D) (s2 : Sl) (F1 : Hp) (fp1 : Nat → List Addr) (H : Hp), Same F F1 → Rl X.K cA F1 W.P W.pn fp1 (wipeS s2 vs) σ H → Ev X.K cA F1 W.P H fp1 (wipeS s2 vs) σ (.ref A) (.val (.lst true acc)) → C acc s2 → Q (.ref A) H) :
    ∃ Z : Nat → Nat → Hp → Prop, (∃ m, Z 0 m (upd H1 A (.lst []))) ∧ ∀ i m H, Z i m H →
      (J.stop i H ∧ Q (.ref A) H) ∨ (J.go i H ∧ ∃ Nx : Hp → Prop, (∀ H', Nx H' → ∃ m', m' < m ∧ Z (i + 1) m' H') ∧ ∀ x H', J.yld i H x H' → t x (L2.wipe σ vs) H' fun σ2 H2 => L2.wipe σ2 vs = L2.wipe σ vs ∧ tTB X cA W tc σ2 H2 fun b H3 =>
        if b = true then tEB X cA W f σ2 H3 fun y H4 => ∃ acc, H4 A = some (.lst acc) ∧ acc.length < sizeLine ∧ Nx (upd H4 A (.lst (acc ++ [y]))) else Nx H3) := by
  -- what holds ahead of each turn
  let Pv : Nat → Hp → Prop := fun i H => ∃ F1 fp1 s1 acc accv, Same F F1 ∧ Rl X.K cA F1 W.P W.pn fp1 (wipeS s1 vs) (L2.wipe σ vs) H ∧ H A = some (.lst accv) ∧ RepFs X.K cA F1 acc accv ∧ F1 A = none ∧ W.P A = none ∧ (∀ j, A ∉ fp1 j) ∧
    acc.length ≤ LN ∧ Po X.K cA W F1 σ (lcL tt vs tc f (ds.drop i) s1 acc) C
  refine ⟨fun i m H => m = ds.length - i ∧ i ≤ ds.length ∧ Pv i H, ⟨ds.length, rfl, Nat.zero_le _, ?_⟩, ?_⟩
  · obtain ⟨fp', r', e'⟩ := r.wipe hv
    have hn : ∀ j, A ∉ fp' j := fun j z => by
      obtain ⟨o, z⟩ := r'.there z
      rw [hA] at z; cases z
    refine ⟨F, fp', s, [], [], Same.refl F, r'.new hA _, upd_same, rfl, Same.free r.fz hA, Same.free r.pr hA, hn, Nat.zero_le _, ?_⟩
    exact p
  · rintro i m H ⟨rfl, hi', F1, fp1, s1, acc, accv, g1, r1, hAv, na, fA, pA, nfp, hlen, p1⟩
    obtain ⟨hgo, hstop⟩ := hJ i H (hG _ _ _ _ _ g1 r1)
    by_cases hlt : i < ds.length
    · have hd : ds[i]? = some ds[i] := List.getElem?_eq_getElem hlt
      obtain ⟨go, hy⟩ := hgo _ hd
      refine .inr ⟨go, Pv (i + 1), fun H' h => ⟨ds.length - (i + 1), by omega, rfl, hlt, h⟩, fun x H' y => ?_⟩
      rw [List.drop_eq_getElem_cons hlt] at p1
      have y1 : Yl X.K cA F1 H ds[i] x H' := (hy x H' y).mono g1
      have ho : ds[i].own = false := y1.1
      -- the new list is kept apart
      have rg := r1.guard hAv fA nfp
      obtain ⟨F2, g2, r2, q2⟩ := yl_rep (W := W.blk (upd W.P A (.lst accv))) rg y1
      simp only [lcL] at p1
      cases hs : tt ds[i] (wipeS s1 vs) with
      | none => rw [hs] at p1; exact p1.elim
      | some s2 =>
        rw [hs] at p1
        dsimp only at p1
        refine ht.ok (upd W.P A (.lst accv)) F2 fp1 _ s2 _ H' ds[i] x _ r2 q2 ho hs fun σ2 fp2 r3 hw0 => ?_
        have hw : L2.wipe σ2 vs = L2.wipe σ vs := (hw0 vs hi).trans (wipe_wipe fun _ h => h)
        refine ⟨hw, upd W.P A (.lst accv), F2, fp2, s2, r3, ?_⟩
        -- the test
        have g12 : Same F F2 := g1.trans g2
        cases hc : tc s2 with
        | ex x s3 => rw [hc] at p1; exact p1.elim
        | no => rw [hc] at p1; exact p1.elim
        | ok b s3 =>
          rw [hc] at p1
          refine fun H3 F3 fp3 g3 r4 => ?_
          -- the list's guard, lifted
          have back : ∀ {F4 : Hp} {fp4 : Nat → List Addr} {s4 : Sl} {H4 : Hp} {o : List V}, Rl X.K cA F4 (upd W.P A (.lst accv)) W.pn fp4 s4 σ2 H4 → ∃ fp5, Rl X.K cA F4 W.P W.pn fp5 (wipeS s4 vs) (L2.wipe σ vs) H4 ∧ (∀ j, A ∉ fp5 j) ∧ H4 A = some (.lst accv) ∧ F4 A = none := by
            intro F4 fp4 s4 H4 o r5
            obtain ⟨fp5, r6, e6⟩ := Rl.wipe (W := W.blk (upd W.P A (.lst accv))) r5 (vs := vs) hv
            rw [hw] at r6
            refine ⟨fp5, r6.unguard (same_upd pA _), fun j z => ?_, r5.pr _ _ upd_same, r5.fd _ _ upd_same⟩
            have z2 : upd W.P A (.lst accv) A = none := (r6.fr j A z).2
            rw [upd_same] at z2
            cases z2
          cases b with
          | false =>
            refine iteF ?_
            dsimp only at p1
            obtain ⟨fp5, r5, n5, hA5, f5⟩ := back (o := accv) r4
            exact ⟨F3, fp5, s3, acc, accv, g12.trans g3, r5, hA5, na.mono (g2.trans g3), f5, pA, n5, hlen, Po.up (g2.trans g3) p1 fun acc' s' _ z => z⟩
          | true =>
            refine iteT ⟨upd W.P A (.lst accv), F3, fp3, s3, r4, ?_⟩
            unfold penE at p1
            dsimp only at p1
            cases hf : f s3 with
            | ex x s4 => rw [hf] at p1; exact p1.elim
            | no => rw [hf] at p1; exact p1.elim
            | ok ev s4 =>
              rw [hf] at p1
              simp only [NS.R.bind] at p1
              intro yv H4 F4 fp4 g4 r5 q5
              obtain ⟨F5, g5, r6, q6⟩ := Ev.pend (W := W.blk (upd W.P A (.lst accv))) r5 q5
              cases hv5 : evV ev.pend s4 with
              | none => rw [hv5] at p1; exact p1.elim
              | some dd =>
                obtain ⟨d', s5⟩ := dd
                rw [hv5] at p1
                dsimp only at p1
                obtain ⟨F6, fp6, g6, r7, q7, _⟩ := Ep.evV (W := W.blk (upd W.P A (.lst accv))) r6 q6 hv5
                split at p1
                · rename_i hfit
                  obtain ⟨fp7, r8, n8, hA8, f8⟩ := back (o := accv) r7
                  have hl := na.length
                  have gg : Same F1 F6 := (g2.trans g3).trans (g4.trans (g5.trans g6))
                  have hfl := fits_le hfit
                  refine ⟨accv, hA8, Nat.lt_of_lt_of_le (by omega : accv.length < LN) LN_le, F6, fp7, s5, acc ++ [d'], accv ++ [yv], g1.trans gg, r8.other f8 pA n8, upd_same, (na.mono gg).append (RepFs.one q7), f8, pA, n8, ?_, ?_⟩
                  · rw [List.length_append, List.length_singleton]; exact hfl
                  · exact Po.up gg p1 fun acc' s' _ z => z
                · exact p1.elim
    · have e : i = ds.length := by omega
      subst e
      rw [List.drop_length] at p1
      refine .inl ⟨hstop rfl, ?_⟩
      have p2 : C acc s1 := p1
      refine hC acc s1 F1 fp1 H g1 (Rl.unwipe r1 r) ⟨[A], ⟨A, accv, rfl, hAv, na, rfl⟩, by simp, fun j b hb hj => ?_, fun b hb => ?_⟩ p2
      · rw [List.mem_singleton.mp hb] at hj
        exact nfp j hj
      · rw [List.mem_singleton.mp hb]
        exact ⟨fA, pA⟩
theorem lc_ok {F0 F P' H0 : Hp} {J : It} {ds : List D} {fp : Nat → List Addr} {s : Sl} {σ : L2.St} {H1 : Hp} {A : Addr} {Q : VK} {tt : D → Sl → Option Sl} {vs is : List Nat} {tc : Sl → R Bool} {t : TG} (hJ : ItD X.K cA F J ds) (hv : ∀ i ∈ vs, W.pn i = none) (hi : ∀ i ∈ is, i ∈ vs)
    (ht : TgB X cA W tg tt is t) (r : Rl X.K cA F W.P W.pn fp s σ H1) (hA : H1 A = none)
    (p : Po X.K cA W F σ (lcL tt vs tc f ds s []) fun acc s2 => Po X.K cA W F σ (.ok (.val (.lst true acc)) (wipeS s2 vs)) (KE X.K cA W F σ Q)) :
    ∃ Z : Nat → Nat → Hp → Prop, (∃ m, Z 0 m (upd H1 A (.lst []))) ∧ ∀ i m H, Z i m H →
      (J.stop i H ∧ Q (.ref A) H) ∨ (J.go i H ∧ ∃ Nx : Hp → Prop, (∀ H', Nx H' → ∃ m', m' < m ∧ Z (i + 1) m' H') ∧ ∀ x H', J.yld i H x H' → t x (L2.wipe σ vs) H' fun σ2 H2 => L2.wipe σ2 vs = L2.wipe σ vs ∧ tTB X cA W tc σ2 H2 fun b H3 =>
        if b = true then tEB X cA W f σ2 H3 fun y H4 => ∃ acc, H4 A = some (.lst acc) ∧ acc.length < sizeLine ∧ Nx (upd H4 A (.lst (acc ++ [y]))) else Nx H3) := by
  refine lc_okG (F0 := F0) (P' := P') (H0 := H0) hJ (fun F1 fp1 s1 σ1 H g r => g.trans r.fz) hv hi ht r hA p (fun acc s2 F1 fp1 H g r q c => ?_)
  have c : KE X.K cA W F σ Q (.val (.lst true acc)) (wipeS s2 vs) := c
  exact c _ H F1 fp1 g r q
/-- a block's parts -/
structure BkOk (X : Cx) (cA : Nat → Addr) (W : Gx) (scope : Scope) (tg : Expr) (ifs : List Expr) (elt : Expr) (own : List (Str × Nat)) (tt : D → Sl → Option Sl) (is : List Nat) (tc : Sl → R Bool) (f : Sl → R EV) : Prop where
  blk : BlkOk X.N X.env.scope scope own
  pn : ∀ i ∈ own.map (·.2), W.pn i = none
  sub : ∀ i ∈ is, i ∈ own.map (·.2)
  tgt : ∃ t, TgB X cA W tg tt is t ∧ ∀ (s : Shared) (H : Hp) (C : Addr) (cl : List (Str × Addr)) (fp : List Addr), PG (X.blk s H scope (compEnvC scope cl C X.env) fp) tg t
  tst : ∀ (s : Shared) (H : Hp) (C : Addr) (cl : List (Str × Addr)) (fp : List Addr), PTs (X.blk s H scope (compEnvC scope cl C X.env) fp) ifs (tTB X cA W tc)
  elt : ∀ (s : Shared) (H : Hp) (C : Addr) (cl : List (Str × Addr)) (fp : List Addr), PE (X.blk s H scope (compEnvC scope cl C X.env) fp) elt (tEB X cA W f)
theorem lc_run {iter elt : Expr} {ifs : List Expr} {scope : Scope} {own : List (Str × Nat)} {gi : Sl → R (List D)} {tt : D → Sl → Option Sl} {is : List Nat} {tc : Sl → R Bool} {t : TG} (hv : ∀ i ∈ own.map (·.2), W.pn i = none) (hs : ∀ i ∈ is, i ∈ own.map (·.2)) (ht : TgB X cA W tg tt is t) {σ : L2.St} {H : Hp} {Q : VK}
    (h : tE X.K cA W (lcE gi tt (own.map (·.2)) tc f) σ H Q) : tLc (tI X.K cA W gi) t (tTB X cA W tc) (tEB X cA W f) (own.map (·.2)) σ H Q := by
  obtain ⟨F, fp, s, r, p⟩ := h
  refine ⟨F, fp, s, r, Po.bind p fun ds s1 _ p1 J H1 F1 fp1 g1 r1 hJ A hA => ?_⟩
  refine lc_ok (F0 := F) (P' := F) (H0 := H) hJ hv hs ht r1 hA (Po.up g1 (Po.bind p1 fun acc s2 _ z => z) fun acc s2 _ z => Po.up g1 z fun _ _ _ z => KE_mono _ _ _ _ g1 z)
theorem se_lc {iter elt : Expr} {ifs : List Expr} {scope : Scope} {own : List (Str × Nat)} {gi : Sl → R (List D)} {tt : D → Sl → Option Sl} {is : List Nat} {tc : Sl → R Bool} (hc : X.calm = true) (hN : X.N.Nodup) (hi : SI X cA W tg iter gi) (hb : BkOk X cA W scope tg ifs elt own tt is tc f) (hs : notSet iter = true) :
    SE X cA W (.ListComp elt [⟨tg, iter, ifs, 0⟩] scope pos) (lcE gi tt (own.map (·.2)) tc f) := by
  obtain ⟨t, ht, hg⟩ := hb.tgt
  exact PE_mono (pe_lc hc hN hi hb.blk hg hb.tst hb.elt (folded_eq hs)) fun σ H Q h => lc_run (iter := iter) (elt := elt) (ifs := ifs) (scope := scope) hb.pn hb.sub ht h
theorem lcL_ne (tt : D → Sl → Option Sl) (vs : List Nat) (c : Sl → R Bool) (f : Sl → R EV) : ∀ (ds : List D) (s : Sl) (acc : List D) {x : Xn} {s' : Sl}, lcL tt vs c f ds s acc ≠ .ex x s'
  | [], s, acc, x, s', h => by simp [lcL] at h
  | d :: ds, s, acc, x, s', h => by
    unfold lcL at h
    split at h
    · cases h
    · split at h
      · split at h
        · split at h
          · split at h
            · exact lcL_ne tt vs c f ds _ _ h
            · cases h
          · cases h
        · cases h
      · exact lcL_ne tt vs c f ds _ _ h
      · cases h
/-- a slot's own list walked: it stays the slot's own -/
def lcB (i : Nat) (tt : D → Sl → Option Sl) (vs : List Nat) (c : Sl → R Bool) (f : Sl → R EV) : Sl → R EV := fun s => match s[i]? with
  | some (some (.lst true xs)) => if plainL xs && !vs.contains i then (lcL tt vs c f xs (s.set i none) []).bind fun acc s2 => match (wipeS s2 vs)[i]? with
    | some none => .ok (.val (.lst true acc)) ((wipeS s2 vs).set i (some (.lst true xs)))
    | _ => .no else .no
  | _ => lcE (plI (seqI (nameE i))) tt vs c f s
theorem Rl.restore {F P H : Hp} {pn : Nat → Option V} {fp : Nat → List Addr} {s : Sl} {σ : L2.St} {i : Nat} {p : Addr} {vs : List V} {xs : List D} (r : Rl X.K cA F (upd P p (.lst vs)) pn fp s σ H) (hP : P p = none) (hi : i < s.length) (hv : σ[i]? = some (some (.ref p))) (n : RepFs X.K cA F xs vs) :
    Rl X.K cA F P pn (fset fp i [p]) (s.set i (some (.lst true xs))) σ H := by
  have hH : H p = some (.lst vs) := r.pr _ _ upd_same
  have hF : F p = none := r.fd _ _ upd_same
  have r1 := r.unguard (same_upd hP (.lst vs))
  have r2 := r1.put (i := i) (d := .lst true xs) (v := .ref p) (l := [p]) hi ⟨p, vs, rfl, hH, n, rfl⟩ (by simp) (fun j a ha hj => by
    rw [List.mem_singleton.mp ha] at hj
    have z : upd P p (.lst vs) p = none := (r.fr j p hj).2
    rw [upd_same] at z
    cases z) (fun a ha => by rw [List.mem_singleton.mp ha]; exact ⟨hF, hP⟩) (fun u hu => by
    have := r.pn i u hu
    rw [hv] at this
    cases this
    rfl)
  have e2 : σ.set i (some (.ref p)) = σ := by
    apply List.ext_getElem?
    intro k
    by_cases hk : k = i
    · subst hk
      rw [List.getElem?_set_self (List.getElem?_eq_some_iff.mp hv).1, hv]
    · rw [List.getElem?_set_ne (Ne.symm hk)]
  rw [e2] at r2
  exact r2
theorem Vl.own_list {F H : Hp} {xs : List D} {v : V} {l : List Addr} (h : Vl X.K cA F H (.lst true xs) v l) : ∃ a vs, v = .ref a ∧ H a = some (.lst vs) ∧ RepFs X.K cA F xs vs ∧ l = [a] := h
theorem lcb_run {x : Str} {p1 : Pos} {i : Nat} {elt : Expr} {ifs : List Expr} {scope : Scope} {own : List (Str × Nat)} {tt : D → Sl → Option Sl} {is : List Nat} {tc : Sl → R Bool} {t : TG} (hv : ∀ i ∈ own.map (·.2), W.pn i = none) (hs : ∀ i ∈ is, i ∈ own.map (·.2)) (ht : ∀ W', W'.pn = W.pn → TgB X cA W' tg tt is t) {σ : L2.St} {H : Hp} {Q : VK}
    (h : tE X.K cA W (lcB i tt (own.map (·.2)) tc f) σ H Q) : tLc (fun σ H R => iAll X.K (tE X.K cA W (nameE i)) σ H R ∨ tI X.K cA W (plI (seqI (nameE i))) σ H R) t (tTB X cA W tc) (tEB X cA W f) (own.map (·.2)) σ H Q := by
  obtain ⟨F, fp, s, r, p⟩ := h
  unfold lcB at p
  split at p
  · rename_i xs hxs
    split at p
    · rename_i hc
      rw [Bool.and_eq_true] at hc
      obtain ⟨hpl, hni⟩ := hc
      refine .inl ⟨F, fp, s, r, ?_⟩
      unfold nameE
      rw [hxs]
      simp only [D.own, if_true]
      intro v H1 F1 fp1 g1 r1 q1
      obtain ⟨_, hv1⟩ := q1
      obtain ⟨u, hu, w⟩ := r1.sl i _ hxs
      rw [hv1] at hu
      cases hu
      obtain ⟨a, vs, rfl, m, n, hf⟩ := Vl.own_list w
      have hfr := r1.fr i a (by rw [hf]; simp)
      refine .inl ⟨a, rfl, ⟨vs, .of m⟩, fun A hA => ?_⟩
      have rd := (r1.drop i).guard m hfr.1 (fun j z => by
        by_cases hj : j = i
        · subst hj; rw [fset_same] at z; cases z
        · rw [fset_ne hj] at z
          exact hj (r1.dj j i a z (by rw [hf]; simp)))
      have hPA : W.P a = none := hfr.2
      refine lc_okG (W := ⟨W.w, upd W.P a (.lst vs), W.pn⟩) (F0 := F1) (P' := F1) (H0 := H1) (F := F1) (ds := xs) (G := upd F1 a (.lst vs)) (C := fun acc s2 => Po X.K cA W F1 σ (match (wipeS s2 (own.map (·.2)))[i]? with
        | some none => R.ok (EV.val (.lst true acc)) ((wipeS s2 (own.map (·.2))).set i (some (.lst true xs)))
        | _ => .no) (KE X.K cA W F1 σ Q)) ?_ ?_ hv hs (ht _ rfl) rd hA ?_ ?_
      · intro j H2 g2
        have hS : SqL X.K H2 a vs := .of (g2 a _ upd_same)
        refine ⟨fun d hd => ?_, fun hl => ⟨vs, hS, by rw [← n.length]; exact Nat.le_of_eq hl⟩⟩
        obtain ⟨y, hy, q⟩ := n.get hd
        refine ⟨⟨vs, y, hS, hy⟩, fun z H' yl => ?_⟩
        obtain ⟨rfl, yl⟩ := yl
        have := yl vs hS
        rw [hy] at this
        cases this
        exact ⟨plain_at hpl hd, .inl ⟨rfl, q⟩⟩
      · intro F2 fp2 s2 σ2 H2 g2 r2 b o hb
        by_cases hba : b = a
        · subst hba
          rw [upd_same] at hb
          cases hb
          exact r2.pr _ _ upd_same
        · rw [upd_ne hba] at hb
          exact r2.fz _ _ (g2 _ _ hb)
      · have p1 := Po.up g1 p (C' := KE X.K cA W F1 σ Q) (fun b s _ z => KE_mono _ _ _ _ g1 z)
        revert p1
        cases hL : lcL tt (own.map (·.2)) tc f xs (s.set i none) [] with
        | ok acc s2 => exact fun p1 => p1
        | ex x s2 => exact fun p1 => absurd hL (lcL_ne _ _ _ _ _ _ _)
        | no => exact fun p1 => p1
      · intro acc s2 F2 fp2 H2 g2 r2 q2 c
        split at c
        · rename_i hsn
          have hlt : i < (wipeS s2 (own.map (·.2))).length := (List.getElem?_eq_some_iff.mp hsn).1
          have r3 := Rl.restore (xs := xs) r2 hPA hlt hv1 (n.mono g2)
          obtain ⟨l, w1, nd, dj, fr⟩ := q2
          refine c (.ref A) H2 F2 _ g2 r3 ⟨l, w1, nd, fun j b hb hj => ?_, fun b hb => ⟨(fr b hb).1, ?_⟩⟩
          · by_cases hji : j = i
            · subst hji
              rw [fset_same] at hj
              rw [List.mem_singleton.mp hj] at hb
              have z : upd W.P a (.lst vs) a = none := (fr a hb).2
              rw [upd_same] at z
              cases z
            · rw [fset_ne hji] at hj
              exact dj j b hb hj
          · have z : upd W.P a (.lst vs) b = none := (fr b hb).2
            by_cases hba : b = a
            · subst hba; rw [upd_same] at z; cases z
            · rw [upd_ne hba] at z; exact z
        · exact c.elim
    · exact p.elim
  · refine .inr ?_
    exact lc_run (iter := elt) (elt := elt) (ifs := ifs) (scope := scope) hv hs (ht W rfl) ⟨F, fp, s, r, p⟩
/-- name = e, e's value at hand -/
theorem set_tail {i : Nat} {D : Ends} {σ : L2.St} {H : Hp} (hp : W.pn i = none) (h : tS X.K cA W (setS i f) D σ H) : tE X.K cA W f σ H fun x H1 => gName i x σ H1 D.nx := by
  obtain ⟨F, fp, s, r, p⟩ := h
  refine ⟨F, fp, s, r, PoS.to p fun ev s1 _ p1 v H1 F1 fp1 g1 r1 q1 => ?_⟩
  split at p1
  · split at p1
    · rename_i d hb
      obtain ⟨l, q, nd, dj, fr⟩ := q1
      exact p1 _ H1 F1 _ g1 (r1.put (Nat.blt_eq.mp hb) q nd (fun j a h1 h2 => (dj j a h1 h2).elim) fr (fun u z => by rw [hp] at z; cases z))
    · exact p1.elim
  · rename_i j hfs
    split at p1
    · rename_i x d hd
      split at p1
      · rename_i hb
        obtain ⟨_, hv⟩ := q1
        obtain ⟨u, hu, q⟩ := r1.sl j d hd
        rw [hv] at hu
        cases hu
        have r2 := r1.freeze hd
        have e2 := r1.fsame j
        have q2 : RepF X.K cA (fzn F1 H1 (fp1 j)) d.frz v := Vl.freeze e2 d v _ q (fun a ha o z => by rw [fzn_in ha]; exact z)
        exact p1 _ H1 _ _ (g1.trans e2) (putF r2 (by rw [List.length_set]; exact Nat.blt_eq.mp hb) q2 (NS.D.frz_own d) hp)
      · exact p1.elim
    · exact p1.elim
/-- name = [..] -/
theorem ss_setLc {i : Nat} {y : Str} {py : Pos} {spos : Pos} {iter elt : Expr} {ifs : List Expr} {scope : Scope} {own : List (Str × Nat)} {gi : Sl → R (List D)} {tt : D → Sl → Option Sl} {is : List Nat} {tc : Sl → R Bool} (hc : X.calm = true) (hN : X.N.Nodup) (hy : X.N[i]? = some y) (hyl : X.env.scope.names.lookup y = some .local)
    (hp : W.pn i = none) (hsw : swapsWith (.ListComp elt [⟨tg, iter, ifs, 0⟩] scope pos) (some (.Name y py)) spos.line X.env = pure true) (hi : SI X cA W tg iter gi) (hb : BkOk X cA W scope tg ifs elt own tt is tc f) (hs : notSet iter = true) :
    SS X cA W (.Assign [.Name y py] (.ListComp elt [⟨tg, iter, ifs, 0⟩] scope pos) spos) (setS i (lcE gi tt (own.map (·.2)) tc f)) := by
  obtain ⟨t, ht, hg⟩ := hb.tgt
  refine PS_mono (ps_setLc hc hN hy hyl hsw hi hb.blk hg hb.tst hb.elt (folded_eq hs)) fun D σ H h => ?_
  show tLc _ _ _ _ _ σ H (fun x H1 => gName i x σ H1 D.nx)
  exact lc_run (W := W) (iter := iter) (elt := elt) (ifs := ifs) (scope := scope) hb.pn hb.sub ht (set_tail hp h)
theorem tgb_any {tt : D → Sl → Option Sl} {is : List Nat} {t : TG} (ht : TgB X cA W tg tt is t) (W' : Gx) (e : W'.pn = W.pn) : TgB X cA W' tg tt is t := ⟨by rw [e]; exact ht.ok⟩
theorem pi_own {x : Str} {p1 : Pos} {i : Nat} (hx : SE X cA W (.Name x p1) (nameE i)) : PI X tg (.Name x p1) (fun σ H R => iAll X.K (tE X.K cA W (nameE i)) σ H R ∨ tI X.K cA W (plI (seqI (nameE i))) σ H R) :=
  ⟨fun pins s σ H R I h => h.elim (fun h => (pi_all hx).run pins s σ H R I h) fun h => (si_seq hx).run pins s σ H R I h⟩
theorem se_lcB {x : Str} {p1 : Pos} {i : Nat} {elt : Expr} {ifs : List Expr} {scope : Scope} {own : List (Str × Nat)} {tt : D → Sl → Option Sl} {is : List Nat} {tc : Sl → R Bool} (hc : X.calm = true) (hN : X.N.Nodup) (hx : SE X cA W (.Name x p1) (nameE i)) (hb : BkOk X cA W scope tg ifs elt own tt is tc f) :
    SE X cA W (.ListComp elt [⟨tg, .Name x p1, ifs, 0⟩] scope pos) (lcB i tt (own.map (·.2)) tc f) := by
  obtain ⟨t, ht, hg⟩ := hb.tgt
  exact PE_mono (pe_lc hc hN (pi_own hx) hb.blk hg hb.tst hb.elt (folded_eq rfl)) fun σ H Q h => lcb_run (x := x) (p1 := p1) (elt := elt) (ifs := ifs) (scope := scope) hb.pn hb.sub (tgb_any ht) h
/-- walked in place where it can be, else shared -/
def lcO (i : Nat) (tt : D → Sl → Option Sl) (vs : List Nat) (c : Sl → R Bool) (f : Sl → R EV) : Sl → R EV := fun s => match lcB i tt vs c f s with
  | .no => lcE (plI (seqI (nameE i))) tt vs c f s
  | r => r
theorem lco_run {x : Str} {p1 : Pos} {i : Nat} {elt : Expr} {ifs : List Expr} {scope : Scope} {own : List (Str × Nat)} {tt : D → Sl → Option Sl} {is : List Nat} {tc : Sl → R Bool} {t : TG} (hv : ∀ i ∈ own.map (·.2), W.pn i = none) (hs : ∀ i ∈ is, i ∈ own.map (·.2)) (ht : ∀ W', W'.pn = W.pn → TgB X cA W' tg tt is t) {σ : L2.St} {H : Hp} {Q : VK}
    (h : tE X.K cA W (lcO i tt (own.map (·.2)) tc f) σ H Q) : tLc (fun σ H R => iAll X.K (tE X.K cA W (nameE i)) σ H R ∨ tI X.K cA W (plI (seqI (nameE i))) σ H R) t (tTB X cA W tc) (tEB X cA W f) (own.map (·.2)) σ H Q := by
  obtain ⟨F, fp, s, r, p⟩ := h
  unfold lcO at p
  split at p
  · exact .inr (lc_run (iter := elt) (elt := elt) (ifs := ifs) (scope := scope) hv hs (ht W rfl) ⟨F, fp, s, r, p⟩)
  · exact lcb_run (x := x) (p1 := p1) (elt := elt) (ifs := ifs) (scope := scope) hv hs ht ⟨F, fp, s, r, p⟩
theorem se_lcO {x : Str} {p1 : Pos} {i : Nat} {elt : Expr} {ifs : List Expr} {scope : Scope} {own : List (Str × Nat)} {tt : D → Sl → Option Sl} {is : List Nat} {tc : Sl → R Bool} (hc : X.calm = true) (hN : X.N.Nodup) (hx : SE X cA W (.Name x p1) (nameE i)) (hb : BkOk X cA W scope tg ifs elt own tt is tc f) :
    SE X cA W (.ListComp elt [⟨tg, .Name x p1, ifs, 0⟩] scope pos) (lcO i tt (own.map (·.2)) tc f) := by
  obtain ⟨t, ht, hg⟩ := hb.tgt
  exact PE_mono (pe_lc hc hN (pi_own hx) hb.blk hg hb.tst hb.elt (folded_eq rfl)) fun σ H Q h => lco_run (x := x) (p1 := p1) (elt := elt) (ifs := ifs) (scope := scope) hb.pn hb.sub (tgb_any ht) h
theorem ss_setLcO {j : Nat} {y x : Str} {py p1 : Pos} {spos : Pos} {i : Nat} {elt : Expr} {ifs : List Expr} {scope : Scope} {own : List (Str × Nat)} {tt : D → Sl → Option Sl} {is : List Nat} {tc : Sl → R Bool} (hc : X.calm = true) (hN : X.N.Nodup) (hy : X.N[i]? = some y) (hyl : X.env.scope.names.lookup y = some .local)
    (hp : W.pn i = none) (hsw : swapsWith (.ListComp elt [⟨tg, .Name x p1, ifs, 0⟩] scope pos) (some (.Name y py)) spos.line X.env = pure true) (hx : SE X cA W (.Name x p1) (nameE j)) (hb : BkOk X cA W scope tg ifs elt own tt is tc f) :
    SS X cA W (.Assign [.Name y py] (.ListComp elt [⟨tg, .Name x p1, ifs, 0⟩] scope pos) spos) (setS i (lcO j tt (own.map (·.2)) tc f)) := by
  obtain ⟨t, ht, hg⟩ := hb.tgt
  refine PS_mono (ps_setLc hc hN hy hyl hsw (pi_own hx) hb.blk hg hb.tst hb.elt (folded_eq rfl)) fun D σ H h => ?_
  show tLc _ _ _ _ _ σ H (fun x H1 => gName i x σ H1 D.nx)
  exact lco_run (W := W) (x := x) (p1 := p1) (elt := elt) (ifs := ifs) (scope := scope) hb.pn hb.sub (tgb_any ht) (set_tail hp h)
end
end NS
namespace NS
open PySem PySem.Spec PyProof.Rows L2

/-! ## 11. calls of own functions -/
/-- a call's end: the value, the parameters' last values -/
inductive CR where
  | ok (d : D) (ds : Sl)
  | ex (x : Xn) (ds : Sl)
  | no
def takeE (e : EV) (s : Sl) : Option (D × Sl) := match e with
  | .val d => some (d.frz, s)
  | .al i => match s[i]? with
    | some (some d) => some (d, s.set i none)
    | _ => none
def takeA : List Bool → List EV → Sl → Option (List D × Sl)
  | [], [], s => some ([], s)
  | p :: ps, e :: es, s => (if p then takeE e s else evV e s).bind fun q => (takeA ps es q.2).bind fun r => some (q.1 :: r.1, r.2)
  | _, _, _ => none
def giveA : List Bool → List EV → Sl → Sl → Sl
  | p :: ps, .al i :: es, d :: ds, s => giveA ps es ds (if p then s.set i d else s)
  | _ :: ps, .val _ :: es, _ :: ds, s => giveA ps es ds s
  | _, _, _, s => s
def callK (cal : List D → CR) (pins : List Bool) (es : List EV) (s : Sl) : R EV := match takeA pins es s with
  | none => .no
  | some (ds, s2) => match cal ds with
    | .ok d ds' => if Nat.beq ds'.length pins.length then .ok (.val d) (giveA pins es ds' s2) else .no
    | .ex x ds' => if Nat.beq ds'.length pins.length then .ex x (giveA pins es ds' s2) else .no
    | .no => .no
def callE (cal : List D → CR) (pins : List Bool) (fs : List (Sl → R EV)) : Sl → R EV := fun s => (argsE fs s).bind (callK cal pins)
def pnOf (pins : List Bool) (vs : List V) : Nat → Option V := fun i => if pins[i]? = some true then vs[i]? else none

section
variable (K : PySem.W.Frag) (cA : Nat → Addr)
/-- a def's promise: what cal says -/
def spF (cal : List D → CR) (pins : List Bool) : Sp := fun vs H Q E => ∃ F P fp ds, Rl K cA F P (pnOf pins vs) fp (ds.map some) (vs.map some) H ∧ ds.length = pins.length ∧ match cal ds with
  | .no => False
  | .ok d ds' => ds'.length = pins.length ∧ ∀ v H' F' fp', Same F F' → Rl K cA F' P (pnOf pins vs) fp' ds' (vs.map some) H' → Ev K cA F' P H' fp' ds' (vs.map some) v (.val d) → Q v H'
  | .ex x ds' => ds'.length = pins.length ∧ ∀ cls dx H' F' fp', Same F F' → Rl K cA F' P (pnOf pins vs) fp' ds' (vs.map some) H' → XnOk K cA F' H' x cls dx → E cls dx H'
end
section
variable {K : PySem.W.Frag} {cA : Nat → Addr} {F F' P P' H H' : Hp} {pn : Nat → Option V} {fp fp' : Nat → List Addr} {s s' acc : Sl} {σ σ' accv : L2.St}
theorem app_l {α : Type} {s t : List α} {i : Nat} {x : α} (h : s[i]? = some x) : (s ++ t)[i]? = some x := by
  rw [List.getElem?_append_left (List.getElem?_eq_some_iff.mp h).1]
  exact h
/-- one more slot -/
theorem Rl.push (r : Rl K cA F P pn fp s σ H) {d : D} {v : V} {l : List Addr} (q : Vl K cA F H d v l) (nd : l.Nodup) (dj : ∀ j a, a ∈ l → a ∈ fp j → False) (fr : ∀ a ∈ l, F a = none ∧ P a = none) : Rl K cA F P pn (fset fp s.length l) (s ++ [some d]) (σ ++ [some v]) H := by
  have hl := r.len
  refine ⟨by rw [List.length_append, List.length_append, hl]; rfl, r.fz, r.pr, fun j d' h => ?_, fun j h => ?_, fun j => ?_, fun j k a h1 h2 => ?_, fun j a h => ?_, fun j u h => app_l (r.pn j u h), r.fd⟩
  · by_cases hj : j = s.length
    · subst hj
      rw [List.getElem?_concat_length] at h
      cases h
      exact ⟨v, by rw [hl, List.getElem?_concat_length], by rw [fset_same]; exact q⟩
    · have hlt : j < s.length := by
        have := (List.getElem?_eq_some_iff.mp h).1
        rw [List.length_append, List.length_singleton] at this
        omega
      rw [List.getElem?_append_left hlt] at h
      obtain ⟨u, h1, h2⟩ := r.sl j d' h
      exact ⟨u, app_l h1, by rw [fset_ne hj]; exact h2⟩
  · by_cases hj : j = s.length
    · subst hj
      exact absurd (List.getElem?_concat_length) (h d)
    · rw [fset_ne hj]
      exact r.nl j fun d' z => h d' (app_l z)
  · by_cases hj : j = s.length
    · subst hj; rw [fset_same]; exact nd
    · rw [fset_ne hj]; exact r.nd j
  · by_cases hj : j = s.length
    · subst hj
      rw [fset_same] at h1
      by_cases hk : k = s.length
      · exact hk.symm
      · rw [fset_ne hk] at h2; exact (dj k a h1 h2).elim
    · rw [fset_ne hj] at h1
      by_cases hk : k = s.length
      · subst hk; rw [fset_same] at h2; exact (dj j a h2 h1).elim
      · rw [fset_ne hk] at h2; exact r.dj j k a h1 h2
  · by_cases hj : j = s.length
    · subst hj; rw [fset_same] at h; exact fr a h
    · rw [fset_ne hj] at h; exact r.fr j a h
theorem evV_app {ev : EV} {d : D} (e : evV ev s = some (d, s')) : evV ev (s ++ acc) = some (d, s' ++ acc) := by
  cases ev with
  | val d' =>
    simp only [evV, Option.some.injEq, Prod.mk.injEq] at e ⊢
    obtain ⟨rfl, rfl⟩ := e
    exact ⟨rfl, rfl⟩
  | al i =>
    simp only [evV] at e ⊢
    split at e
    · rename_i d' hd
      rw [app_l hd]
      simp only [Option.some.injEq, Prod.mk.injEq] at e ⊢
      obtain ⟨rfl, rfl⟩ := e
      refine ⟨rfl, ?_⟩
      rw [List.set_append_left _ _ (List.getElem?_eq_some_iff.mp hd).1]
    · cases e
theorem evV_len {ev : EV} {d : D} (e : evV ev s = some (d, s')) : s'.length = s.length := by
  cases ev with
  | val d' =>
    simp only [evV, Option.some.injEq, Prod.mk.injEq] at e
    obtain ⟨_, rfl⟩ := e
    rfl
  | al i =>
    simp only [evV] at e
    split at e
    · simp only [Option.some.injEq, Prod.mk.injEq] at e
      obtain ⟨_, rfl⟩ := e
      rw [List.length_set]
    · cases e
theorem Ep.app {v : V} {ev : EV} (h : Ep K cA F σ v ev) : Ep K cA F (σ ++ accv) v ev := by
  cases ev with
  | val d => exact h
  | al i => exact app_l h
/-- the arguments become slots of their own -/
theorem take_ok : ∀ {pins : List Bool} {es : List EV} {ds : List D} {vs : List V} {F : Hp} {fp : Nat → List Addr} {s s' acc : Sl} {accv : L2.St}, Rl K cA F P pn fp (s ++ acc) (σ ++ accv) H → s.length = σ.length → Eps K cA F σ vs es → takeA pins es s = some (ds, s') →
    ∃ F' fp', Same F F' ∧ Rl K cA F' P pn fp' (s' ++ (acc ++ ds.map some)) (σ ++ (accv ++ vs.map some)) H ∧ ds.length = pins.length ∧ s'.length = s.length ∧ vs.length = pins.length
  | [], [], ds, vs, F, fp, s, s', acc, accv, r, hl, q, e => by
    simp only [takeA, Option.some.injEq, Prod.mk.injEq] at e
    obtain ⟨rfl, rfl⟩ := e
    cases vs with
    | nil => exact ⟨F, fp, Same.refl F, by simpa using r, rfl, rfl, rfl⟩
    | cons v vs => obtain ⟨_, _, z, _⟩ := q; cases z
  | p :: ps, ev :: es, ds, vs, F, fp, s, s', acc, accv, r, hl, q, e => by
    simp only [takeA] at e
    obtain ⟨⟨d, s1⟩, e1, e⟩ := Option.bind_eq_some_iff.mp e
    obtain ⟨⟨ds1, s2⟩, e2, e⟩ := Option.bind_eq_some_iff.mp e
    simp only [Option.some.injEq, Prod.mk.injEq] at e
    obtain ⟨rfl, rfl⟩ := e
    cases vs with
    | nil =>
      have z : ev :: es = [] := q
      cases z
    | cons v vs =>
      obtain ⟨_, _, z, q1, q2⟩ := q
      cases z
      -- one argument
      have one : ∃ F1 fp1, Same F F1 ∧ Rl K cA F1 P pn fp1 (s1 ++ (acc ++ [some d])) (σ ++ (accv ++ [some v])) H ∧ s1.length = s.length := by
        have byV : ∀ {d : D} {s1 : Sl}, evV ev s = some (d, s1) → ∃ F1 fp1, Same F F1 ∧ Rl K cA F1 P pn fp1 (s1 ++ (acc ++ [some d])) (σ ++ (accv ++ [some v])) H ∧ s1.length = s.length := by
          intro d s1 e1
          have q1' : Ep K cA F (σ ++ accv) v ev := q1.app
          obtain ⟨F1, fp1, g1, r1, q3, ho⟩ := Ep.evV (W := ⟨fun _ _ _ _ => False, P, pn⟩) r q1' (evV_app e1)
          have r2 := Rl.push r1 (Vl.frozen ho q3) List.nodup_nil (fun j a z => nomatch z) (fun a z => nomatch z)
          rw [List.append_assoc, List.append_assoc] at r2
          exact ⟨F1, _, g1, r2, evV_len e1⟩
        cases p with
        | false => exact byV e1
        | true =>
          simp only [if_true] at e1
          cases ev with
          | val d' => exact byV e1
          | al i =>
            simp only [takeE] at e1
            split at e1
            · rename_i d' hd
              simp only [Option.some.injEq, Prod.mk.injEq] at e1
              obtain ⟨rfl, rfl⟩ := e1
              obtain ⟨u, hu, w⟩ := r.sl i d' (app_l hd)
              have hv : σ[i]? = some (some v) := q1
              rw [app_l hv] at hu
              cases hu
              have r1 := r.drop i
              have hi := (List.getElem?_eq_some_iff.mp hd).1
              rw [List.set_append_left _ _ hi] at r1
              have r2 := Rl.push r1 (l := fp i) w (r.nd i) (fun j a h1 h2 => ?_) (fun a ha => r.fr i a ha)
              · rw [List.append_assoc, List.append_assoc] at r2
                exact ⟨F, _, Same.refl F, r2, List.length_set⟩
              · by_cases hj : j = i
                · subst hj; rw [fset_same] at h2; cases h2
                · rw [fset_ne hj] at h2; exact hj (r.dj j i a h2 h1)
            · cases e1
      obtain ⟨F1, fp1, g1, r1, hl1⟩ := one
      obtain ⟨F2, fp2, g2, r2, h1, h2, h3⟩ := take_ok (pins := ps) r1 (hl1.trans hl) (q2.mono g1) e2
      refine ⟨F2, fp2, g1.trans g2, ?_, by rw [List.length_cons, List.length_cons, h1], h2.trans hl1, by rw [List.length_cons, List.length_cons, h3]⟩
      rw [List.append_assoc, List.append_assoc] at r2
      exact r2
  | [], _ :: _, _, _, _, _, _, _, _, _, _, _, _, e => by cases e
  | _ :: _, [], _, _, _, _, _, _, _, _, _, _, _, e => by cases e
/-- what the callee may not touch: the caller's own objects -/
def keepP (n : Nat) (fp : Nat → List Addr) (H P : Hp) : Hp := fun b => if (List.range n).any (fun i => (fp i).contains b) then H b else P b
theorem keepP_in {n : Nat} {i : Nat} {a : Addr} (hi : i < n) (ha : a ∈ fp i) : keepP n fp H P a = H a := by
  unfold keepP
  rw [if_pos]
  rw [List.any_eq_true]
  exact ⟨i, List.mem_range.mpr hi, by simpa using ha⟩
theorem keepP_out {n : Nat} {a : Addr} (h : ∀ i, i < n → a ∉ fp i) : keepP n fp H P a = P a := by
  unfold keepP
  rw [if_neg]
  intro z
  obtain ⟨i, hi, z⟩ := List.any_eq_true.mp z
  exact h i (List.mem_range.mp hi) (by simpa using z)
theorem keepP_cases (n : Nat) (a : Addr) : (∃ i, i < n ∧ a ∈ fp i ∧ keepP n fp H P a = H a) ∨ ((∀ i, i < n → a ∉ fp i) ∧ keepP n fp H P a = P a) := by
  by_cases h : ∃ i, i < n ∧ a ∈ fp i
  · obtain ⟨i, hi, ha⟩ := h
    exact .inl ⟨i, hi, ha, keepP_in hi ha⟩
  · have h' : ∀ i, i < n → a ∉ fp i := fun i hi ha => h ⟨i, hi, ha⟩
    exact .inr ⟨h', keepP_out h'⟩
theorem app_r {α : Type} {s t : List α} {j : Nat} : (s ++ t)[s.length + j]? = t[j]? := by
  rw [List.getElem?_append_right (Nat.le_add_right _ _), Nat.add_sub_cancel_left]
/-- the callee's view -/
theorem Rl.split (r : Rl K cA F P pn fp (s ++ acc) (σ ++ accv) H) (hl : s.length = σ.length) {pn' : Nat → Option V} (hp : ∀ i v, pn' i = some v → accv[i]? = some (some v)) : Rl K cA F (keepP s.length fp H P) pn' (fun j => fp (s.length + j)) acc accv H := by
  have hl2 : acc.length = accv.length := by
    have := r.len
    rw [List.length_append, List.length_append] at this
    omega
  refine ⟨hl2, r.fz, fun a o h => ?_, fun j d h => ?_, fun j h => ?_, fun j => r.nd _, fun j k a h1 h2 => ?_, fun j a h => ⟨(r.fr _ a h).1, ?_⟩, hp, fun a o h => ?_⟩
  · rcases keepP_cases (fp := fp) (H := H) (P := P) s.length a with ⟨i, hi, ha, e⟩ | ⟨_, e⟩
    · rw [e] at h; exact h
    · rw [e] at h; exact r.pr a o h
  · obtain ⟨v, h1, h2⟩ := r.sl (s.length + j) d (by rw [app_r]; exact h)
    rw [hl, app_r] at h1
    exact ⟨v, h1, h2⟩
  · exact r.nl _ fun d z => h d (by rw [app_r] at z; exact z)
  · have := r.dj _ _ a h1 h2
    omega
  · rw [keepP_out fun i hi z => by have := r.dj _ _ a h z; omega]
    exact (r.fr _ a h).2
  · rcases keepP_cases (fp := fp) (H := H) (P := P) s.length a with ⟨i, hi, ha, e⟩ | ⟨_, e⟩
    · exact (r.fr i a ha).1
    · rw [e] at h; exact r.fd a o h
/-- behind the call: both together again -/
theorem Rl.join {acc' : Sl} (r : Rl K cA F P pn fp (s ++ acc) (σ ++ accv) H) (hl : s.length = σ.length) (g : Same F F') {pn' : Nat → Option V} (r' : Rl K cA F' (keepP s.length fp H P) pn' fp' acc' accv H') :
    Rl K cA F' P pn (fun j => if j < s.length then fp j else fp' (j - s.length)) (s ++ acc') (σ ++ accv) H' := by
  have old : ∀ {j : Nat}, j < s.length → ∀ {x : Option D}, (s ++ acc')[j]? = some x → (s ++ acc)[j]? = some x := fun {j} hj {x} h => by
    rw [List.getElem?_append_left hj] at h ⊢
    exact h
  have same : ∀ {j : Nat}, j < s.length → ∀ a ∈ fp j, H' a = H a := fun {j} hj a ha => by
    obtain ⟨o, ho⟩ := r.there ha
    rw [ho]
    exact r'.pr a o (by rw [keepP_in hj ha]; exact ho)
  have Psame : Same P (keepP s.length fp H P) := fun a o h => by
    rcases keepP_cases (fp := fp) (H := H) (P := P) s.length a with ⟨i, hi, ha, e⟩ | ⟨_, e⟩
    · rw [(r.fr i a ha).2] at h; cases h
    · rw [e]; exact h
  have apart : ∀ {i j : Nat} {a : Addr}, i < s.length → a ∈ fp i → a ∈ fp' j → False := fun {i j a} hi ha hj => by
    have := (r'.fr j a hj).2
    rw [keepP_in hi ha] at this
    obtain ⟨o, ho⟩ := r.there ha
    rw [ho] at this; cases this
  refine ⟨by rw [List.length_append, List.length_append, hl, r'.len], r'.fz, Psame.trans r'.pr, fun j d h => ?_, fun j h => ?_, fun j => ?_, fun j k a h1 h2 => ?_, fun j a h => ?_, r.pn, fun a o h => r'.fd a o (Psame a o h)⟩
  · by_cases hj : j < s.length
    · obtain ⟨v, h1, h2⟩ := r.sl j d (old hj h)
      refine ⟨v, h1, ?_⟩
      rw [if_pos hj]
      exact Vl.keep g d v _ h2 (same hj)
    · have e : j = s.length + (j - s.length) := by omega
      rw [e, app_r] at h
      obtain ⟨v, h1, h2⟩ := r'.sl _ d h
      refine ⟨v, ?_, ?_⟩
      · rw [e, hl, app_r]
        rw [hl] at h1
        exact h1
      · rw [if_neg hj]; exact h2
  · by_cases hj : j < s.length
    · show (if j < s.length then fp j else _) = []
      rw [if_pos hj]
      exact r.nl j fun d z => h d (by rw [List.getElem?_append_left hj] at z ⊢; exact z)
    · show (if j < s.length then fp j else _) = []
      rw [if_neg hj]
      refine r'.nl _ fun d z => h d ?_
      have e : j = s.length + (j - s.length) := by omega
      rw [e, app_r]
      exact z
  · show (if j < s.length then fp j else _).Nodup
    by_cases hj : j < s.length
    · rw [if_pos hj]; exact r.nd j
    · rw [if_neg hj]; exact r'.nd _
  · have h1 : a ∈ (if j < s.length then fp j else fp' (j - s.length)) := h1
    have h2 : a ∈ (if k < s.length then fp k else fp' (k - s.length)) := h2
    by_cases hj : j < s.length
    · rw [if_pos hj] at h1
      by_cases hk : k < s.length
      · rw [if_pos hk] at h2; exact r.dj j k a h1 h2
      · rw [if_neg hk] at h2; exact (apart hj h1 h2).elim
    · rw [if_neg hj] at h1
      by_cases hk : k < s.length
      · rw [if_pos hk] at h2; exact (apart hk h2 h1).elim
      · rw [if_neg hk] at h2
        have := r'.dj _ _ a h1 h2
        omega
  · have h : a ∈ (if j < s.length then fp j else fp' (j - s.length)) := h
    by_cases hj : j < s.length
    · rw [if_pos hj] at h
      refine ⟨?_, (r.fr j a h).2⟩
      obtain ⟨o, ho⟩ := r.there h
      exact r'.fd a o (by rw [keepP_in hj h]; exact ho)
    · rw [if_neg hj] at h
      exact ⟨(r'.fr _ a h).1, Same.free Psame (r'.fr _ a h).2⟩
/-- a slot's container goes to another slot -/
theorem Rl.move (r : Rl K cA F P pn fp s σ H) {i j : Nat} {d : D} (hi : i < s.length) (hij : i ≠ j) (e : s[j]? = some (some d)) (hv : ∃ v, σ[i]? = some (some v) ∧ σ[j]? = some (some v)) : Rl K cA F P pn (fset (fset fp j []) i (fp j)) ((s.set j none).set i (some d)) σ H := by
  obtain ⟨v, h1, h2⟩ := hv
  obtain ⟨u, h3, q⟩ := r.sl j d e
  rw [h2] at h3
  cases h3
  have r1 := (r.drop j).put (i := i) (d := d) (v := v) (l := fp j) (by rw [List.length_set]; exact hi) q (r.nd j) (fun k a ha hk => ?_) (fun a ha => r.fr j a ha) (fun u hu => by have := r.pn i u hu; rw [h1] at this; cases this; rfl)
  · have e2 : σ.set i (some v) = σ := by
      apply List.ext_getElem?
      intro k
      by_cases hk : k = i
      · subst hk
        rw [List.getElem?_set_self (List.getElem?_eq_some_iff.mp h1).1, h1]
      · rw [List.getElem?_set_ne (Ne.symm hk)]
    rw [e2] at r1
    exact r1
  · by_cases hkj : k = j
    · subst hkj; rw [fset_same] at hk; cases hk
    · rw [fset_ne hkj] at hk
      exact (hkj (r.dj k j a hk ha)).elim
/-- fewer slots at the end -/
theorem Rl.cut (r : Rl K cA F P pn fp (s ++ acc) (σ ++ accv) H) (hl : s.length = σ.length) (hp : ∀ i v, pn i = some v → i < s.length) : Rl K cA F P pn (fun j => if j < s.length then fp j else []) s σ H := by
  have mem : ∀ {j : Nat} {a : Addr}, a ∈ (if j < s.length then fp j else []) → j < s.length ∧ a ∈ fp j := fun {j a} h => by
    by_cases hj : j < s.length
    · rw [if_pos hj] at h; exact ⟨hj, h⟩
    · rw [if_neg hj] at h; cases h
  refine ⟨hl, r.fz, r.pr, fun j d h => ?_, fun j h => ?_, fun j => ?_, fun j k a h1 h2 => r.dj j k a (mem h1).2 (mem h2).2, fun j a h => r.fr j a (mem h).2, fun j v h => ?_, r.fd⟩
  · have hj := (List.getElem?_eq_some_iff.mp h).1
    obtain ⟨v, h1, h2⟩ := r.sl j d (app_l h)
    rw [List.getElem?_append_left (by omega)] at h1
    exact ⟨v, h1, by rw [if_pos hj]; exact h2⟩
  · show (if j < s.length then fp j else []) = []
    by_cases hj : j < s.length
    · rw [if_pos hj]
      exact r.nl j fun d z => h d (by rw [List.getElem?_append_left hj] at z; exact z)
    · rw [if_neg hj]
  · show (if j < s.length then fp j else []).Nodup
    by_cases hj : j < s.length
    · rw [if_pos hj]; exact r.nd j
    · rw [if_neg hj]; exact List.nodup_nil
  · have := r.pn j v h
    rw [List.getElem?_append_left (by have := hp j v h; omega)] at this
    exact this
end
end NS
namespace NS
open PySem PySem.Spec PyProof.Rows L2
section
variable {K : PySem.W.Frag} {cA : Nat → Addr} {F F' P P' H H' : Hp} {pn : Nat → Option V} {fp fp' : Nat → List Addr} {s s' acc : Sl} {σ σ' accv : L2.St}
theorem fset_mem {fp : Nat → List Addr} {i j : Nat} {l : List Addr} {a : Addr} (h : a ∈ fset fp i l j) : a ∈ l ∨ a ∈ fp j := by
  by_cases hj : j = i
  · subst hj; rw [fset_same] at h; exact .inl h
  · rw [fset_ne hj] at h; exact .inr h
theorem set_mid {α : Type} {s t r : List α} {x y : α} : (s ++ (t ++ (x :: r))).set (s.length + t.length) y = s ++ (t ++ (y :: r)) := by
  rw [List.set_append_right _ _ (Nat.le_add_right _ _), Nat.add_sub_cancel_left, List.set_append_right _ _ (Nat.le_refl _), Nat.sub_self]
  rfl
theorem get_mid {α : Type} {s t r : List α} {x : α} : (s ++ (t ++ (x :: r)))[s.length + t.length]? = some x := by
  rw [app_r, List.getElem?_append_right (Nat.le_refl _), Nat.sub_self]
  rfl
/-- the parameters' last values go back -/
theorem give_ok {F0 : Hp} : ∀ {pins : List Bool} {es : List EV} {ds : Sl} {vs : List V} {s acc : Sl} {accv : L2.St} {fp : Nat → List Addr}, Rl K cA F P pn fp (s ++ (acc ++ ds)) (σ ++ (accv ++ vs.map some)) H → s.length = σ.length → acc.length = accv.length → Eps K cA F0 σ vs es → ds.length = pins.length → vs.length = pins.length →
    (∀ i v, pn i = some v → i < s.length) → ∃ fp', Rl K cA F P pn fp' (giveA pins es ds s) σ H ∧ ∀ j a, a ∈ fp' j → ∃ k, a ∈ fp k := by
  intro pins
  induction pins with
  | nil =>
    intro es ds vs s acc accv fp r hl hl2 q h1 h2 hp
    have e1 : ds = [] := List.eq_nil_of_length_eq_zero h1
    have e2 : vs = [] := List.eq_nil_of_length_eq_zero h2
    subst e1 e2
    refine ⟨fun j => if j < s.length then fp j else [], ?_, fun j a h => ?_⟩
    · have : giveA [] es [] s = s := by cases es <;> rfl
      rw [this]
      exact Rl.cut r hl hp
    · have h : a ∈ (if j < s.length then fp j else []) := h
      by_cases hj : j < s.length
      · rw [if_pos hj] at h; exact ⟨j, h⟩
      · rw [if_neg hj] at h; cases h
  | cons p ps ih =>
    intro es ds vs s acc accv fp r hl hl2 q h1 h2 hp
    cases ds with
    | nil => cases h1
    | cons x ds =>
      cases vs with
      | nil => cases h2
      | cons v vs =>
        obtain ⟨ev, es', rfl, q1, q2⟩ := q
        have k1 : ds.length = ps.length := by simpa using h1
        have k2 : vs.length = ps.length := by simpa using h2
        have re : ∀ {s' : Sl} {y : Option D} {fp' : Nat → List Addr}, s'.length = s.length → Rl K cA F P pn fp' (s' ++ (acc ++ (y :: ds))) (σ ++ (accv ++ (v :: vs).map some)) H → (∀ j a, a ∈ fp' j → ∃ k, a ∈ fp k) →
            ∃ fp'', Rl K cA F P pn fp'' (giveA ps es' ds s') σ H ∧ ∀ j a, a ∈ fp'' j → ∃ k, a ∈ fp k := by
          intro s' y fp' hs r' hm
          have r2 : Rl K cA F P pn fp' (s' ++ ((acc ++ [y]) ++ ds)) (σ ++ ((accv ++ [some v]) ++ vs.map some)) H := by
            rw [List.append_assoc, List.append_assoc]
            exact r'
          obtain ⟨fp'', r3, hm2⟩ := ih (es := es') r2 (hs.trans hl) (by rw [List.length_append, List.length_append, hl2]; rfl) q2 k1 k2 (fun i u h => by rw [hs]; exact hp i u h)
          exact ⟨fp'', r3, fun j a h => let ⟨k, hk⟩ := hm2 j a h; hm k a hk⟩
        cases ev with
        | val d => exact re rfl r fun j a h => ⟨j, h⟩
        | al i =>
          cases p with
          | false => exact re rfl r fun j a h => ⟨j, h⟩
          | true =>
            have hv : σ[i]? = some (some v) := q1
            have hi : i < s.length := by rw [hl]; exact (List.getElem?_eq_some_iff.mp hv).1
            show ∃ fp'', Rl K cA F P pn fp'' (giveA ps es' ds (s.set i x)) σ H ∧ _
            cases x with
            | none =>
              have r1 := r.drop i
              rw [List.set_append_left _ _ hi] at r1
              exact re List.length_set r1 fun j a h => (fset_mem h).elim (fun z => nomatch z) fun z => ⟨j, z⟩
            | some d =>
              have r1 := r.move (i := i) (j := s.length + acc.length) (d := d) (by rw [List.length_append]; omega) (by omega) get_mid ⟨v, app_l hv, by rw [hl, hl2]; exact get_mid⟩
              rw [set_mid, List.set_append_left _ _ hi] at r1
              exact re List.length_set r1 fun j a h => (fset_mem h).elim (fun z => ⟨_, z⟩) fun z => (fset_mem z).elim (fun z => nomatch z) fun z => ⟨j, z⟩
theorem pnOf_some {pins : List Bool} {vs : List V} {i : Nat} {v : V} (h : pnOf pins vs i = some v) : pins[i]? = some true ∧ vs[i]? = some v := by
  unfold pnOf at h
  split at h
  · rename_i hc
    exact ⟨hc, h⟩
  · cases h
end
section
variable {X : Cx} {cA : Nat → Addr} {W : Gx} {e a b c : Expr} {es : List Expr} {f g h : Sl → R EV} {pos : Pos}
/-- a call keeps what cal says -/
theorem call_ok {F H : Hp} {fp : Nat → List Addr} {s : Sl} {σ : L2.St} {vs : List V} {es : List EV} {cal : List D → CR} {pins : List Bool} {Q : VK} (r : Rl X.K cA F W.P W.pn fp s σ H) (q : Eps X.K cA F σ vs es) (p : Po X.K cA W F σ (callK cal pins es s) (KE X.K cA W F σ Q)) :
    spF X.K cA cal pins vs H Q fun cls dx H' => W.w cls dx σ H' := by
  unfold callK at p
  split at p
  · exact p.elim
  · rename_i ds s2 ht
    have r0 : Rl X.K cA F W.P W.pn fp (s ++ []) (σ ++ []) H := by rw [List.append_nil, List.append_nil]; exact r
    obtain ⟨F1, fp1, g1, r1, h1, h2, h3⟩ := take_ok r0 r.len q ht
    rw [List.nil_append, List.nil_append] at r1
    have hl : s2.length = σ.length := h2.trans r.len
    have hp : ∀ i v, W.pn i = some v → i < s2.length := fun i v h => by
      have := r.pn i v h
      rw [hl]
      exact (List.getElem?_eq_some_iff.mp this).1
    refine ⟨F1, _, _, ds, r1.split hl (pn' := pnOf pins vs) (fun j v h => ?_), h1, ?_⟩
    · rw [List.getElem?_map, (pnOf_some h).2]
      rfl
    -- behind it
    have fin : ∀ {F' : Hp} {fp' : Nat → List Addr} {H' : Hp} {ds' : Sl}, Same F1 F' → Rl X.K cA F' (keepP s2.length fp1 H W.P) (pnOf pins vs) fp' ds' (vs.map some) H' → ds'.length = pins.length →
        ∃ fp2, Rl X.K cA F' W.P W.pn fp2 (giveA pins es ds' s2) σ H' ∧ ∀ j a, a ∈ fp2 j → (∃ i, i < s2.length ∧ a ∈ fp1 i) ∨ ∃ k, a ∈ fp' k := by
      intro F' fp' H' ds' g' r' hl'
      have rj := r1.join hl g' r'
      obtain ⟨fp2, r2, hm⟩ := give_ok (acc := []) (accv := []) (F0 := F) (by rw [List.nil_append, List.nil_append]; exact rj) hl rfl q hl' h3 hp
      refine ⟨fp2, r2, fun j a h => ?_⟩
      obtain ⟨k, hk⟩ := hm j a h
      by_cases hlt : k < s2.length
      · rw [if_pos hlt] at hk; exact .inl ⟨k, hlt, hk⟩
      · rw [if_neg hlt] at hk; exact .inr ⟨_, hk⟩
    split at p
    · rename_i d ds' hc
      split at p
      · rename_i hb
        have hlen := Nat.eq_of_beq_eq_true hb
        rw [hc]
        refine ⟨hlen, fun v H' F' fp' g' r' q' => ?_⟩
        obtain ⟨fp2, r2, hm⟩ := fin g' r' hlen
        refine p v H' F' fp2 (g1.trans g') r2 ?_
        obtain ⟨l, w, nd, dj, fr⟩ := q'
        have Psame : ∀ a, (keepP s2.length fp1 H W.P) a = none → W.P a = none ∧ ∀ i, i < s2.length → a ∉ fp1 i := fun a h => by
          rcases keepP_cases (fp := fp1) (H := H) (P := W.P) s2.length a with ⟨i, hi, ha, e⟩ | ⟨hn, e⟩
          · obtain ⟨o, ho⟩ := r1.there ha
            rw [e, ho] at h; cases h
          · rw [e] at h; exact ⟨h, hn⟩
        refine ⟨l, w, nd, fun j a h1 h2 => ?_, fun a ha => ⟨(fr a ha).1, (Psame a (fr a ha).2).1⟩⟩
        rcases hm j a h2 with ⟨i, hi, hk⟩ | ⟨k, hk⟩
        · exact (Psame a (fr a h1).2).2 i hi hk
        · exact dj k a h1 hk
      · exact p.elim
    · rename_i x ds' hc
      split at p
      · rename_i hb
        have hlen := Nat.eq_of_beq_eq_true hb
        rw [hc]
        refine ⟨hlen, fun cls dx H' F' fp' g' r' q' => ?_⟩
        obtain ⟨fp2, r2, hm⟩ := fin g' r' hlen
        exact p cls dx H' F' fp2 (g1.trans g') r2 q'
      · exact p.elim
    · exact p.elim
/-- f(e, ..), f an own function -/
theorem se_call {k : Nat} {fa : Addr} {fd : FuncData} {ps : List Str} {cal : List D → CR} {pins : List Bool} {x : Str} {p : Pos} {fs : List (Sl → R EV)} (Fk : FnOk X.prog X.w X.K X.mg X.base (L2.CX X.prog X.w) k fa fd ps (spF X.K cA cal pins)) (hr : Room k X.A) (hg : Gl X x) (hm : X.mg x = some (.ref fa))
    (hk : PySem.W.keepIn X.K (.ref fa) = true) (hb : Binds X.K fd ps []) (tk : Takes X W.w) (ha : SA X cA W (e :: es) (argsE fs)) (hdb : (x == ("__debug__" : Str)) = false) (hs : (e :: es).all noStar = true) : SE X cA W (.Call (.Name x p) (e :: es) [] pos) (callE cal pins fs) := by
  rw [List.all_cons, Bool.and_eq_true] at hs
  refine PE_mono (pe_callSD (E := fun σ cls dx H' => W.w cls dx σ H') Fk hr hg hm hk hb .nil (fun σ => passAt tk σ) ha hdb (starEach_cons hs.1) (back_plain hs.2)) fun σ H Q h => ?_
  obtain ⟨F, fp, s, r, p⟩ := h
  refine ⟨F, fp, s, r, Po.bind p fun es1 s1 _ p1 vs H1 F1 fp1 g1 r1 q1 => ?_⟩
  show spF X.K cA cal pins (vs ++ []) H1 Q fun cls dx H' => W.w cls dx σ H'
  rw [List.append_nil]
  exact call_ok r1 q1 (Po.up g1 p1 fun _ _ _ z => KE_mono _ _ _ _ g1 z)

/-! ### a def's body -/
def maskP : List Bool → Sl → Sl
  | p :: ps, x :: xs => (if p then x else none) :: maskP ps xs
  | _ :: ps, [] => none :: maskP ps []
  | [], _ => []
theorem maskP_length : ∀ (ps : List Bool) (s : Sl), (maskP ps s).length = ps.length
  | [], _ => by cases ‹Sl› <;> rfl
  | p :: ps, [] => by rw [maskP, List.length_cons, List.length_cons, maskP_length ps []]
  | p :: ps, x :: xs => by rw [maskP, List.length_cons, List.length_cons, maskP_length ps xs]
theorem maskP_some : ∀ {ps : List Bool} {s : Sl} {i : Nat} {d : D}, (maskP ps s)[i]? = some (some d) → ps[i]? = some true ∧ s[i]? = some (some d)
  | [], s, i, d, h => by cases s <;> simp [maskP] at h
  | p :: ps, [], 0, d, h => by simp [maskP] at h
  | p :: ps, [], i + 1, d, h => by
    have := maskP_some (ps := ps) (s := []) (i := i) (d := d) (by simpa [maskP] using h)
    simp at this
  | p :: ps, x :: xs, 0, d, h => by
    cases p with
    | true => simp [maskP] at h; subst h; exact ⟨rfl, rfl⟩
    | false => simp [maskP] at h
  | p :: ps, x :: xs, i + 1, d, h => by
    have := maskP_some (ps := ps) (s := xs) (i := i) (d := d) (by simpa [maskP] using h)
    simpa using this
def begS (n : Nat) (ds : List D) : Sl := ds.map some ++ List.replicate (n - ds.length) none
/-- what a def's body comes to -/
def calOf (f : Sl → Fl) (n : Nat) (pins : List Bool) (ds : List D) : CR := match f (begS n ds) with
  | .rt d s => .ok d (maskP pins s)
  | .nx s => .ok .non (maskP pins s)
  | .ex x s => .ex x (maskP pins s)
  | _ => .no
theorem Rl.ext {K : PySem.W.Frag} {F P H : Hp} {pn : Nat → Option V} {fp : Nat → List Addr} {s : Sl} {σ : L2.St} (r : Rl K cA F P pn fp s σ H) (n : Nat) : Rl K cA F P pn fp (s ++ List.replicate n none) (σ ++ List.replicate n none) H := by
  have out : ∀ {j : Nat}, ¬ j < s.length → ∀ d, (s ++ List.replicate n (none : Option D))[j]? ≠ some (some d) := fun {j} hj d h => by
    rw [List.getElem?_append_right (by omega), List.getElem?_replicate] at h
    split at h <;> cases h
  refine ⟨by rw [List.length_append, List.length_append, r.len, List.length_replicate, List.length_replicate], r.fz, r.pr, fun j d h => ?_, fun j h => ?_, r.nd, r.dj, r.fr, fun j v h => app_l (r.pn j v h), r.fd⟩
  · by_cases hj : j < s.length
    · rw [List.getElem?_append_left hj] at h
      obtain ⟨v, h1, h2⟩ := r.sl j d h
      exact ⟨v, app_l h1, h2⟩
    · exact (out hj d h).elim
  · by_cases hj : j < s.length
    · exact r.nl j fun d z => h d (app_l z)
    · refine r.nl j fun d z => ?_
      exact hj (List.getElem?_eq_some_iff.mp z).1
/-- the parameters' last values -/
theorem Rl.mask {K : PySem.W.Frag} {F P H : Hp} {pins : List Bool} {vs : List V} {fp : Nat → List Addr} {s : Sl} {σ : L2.St} (r : Rl K cA F P (pnOf pins vs) fp s σ H) (hl : vs.length = pins.length) :
    ∃ fp', Rl K cA F P (pnOf pins vs) fp' (maskP pins s) (vs.map some) H ∧ ∀ j a, a ∈ fp' j → a ∈ fp j := by
  have mem : ∀ {j : Nat} {a : Addr}, a ∈ (if ((maskP pins s)[j]?.getD none).isSome then fp j else []) → (∃ d, (maskP pins s)[j]? = some (some d)) ∧ a ∈ fp j := fun {j a} h => by
    split at h
    · rename_i hc
      refine ⟨?_, h⟩
      cases e : (maskP pins s)[j]? with
      | none => rw [e] at hc; cases hc
      | some x =>
        cases x with
        | none => rw [e] at hc; cases hc
        | some d => exact ⟨d, rfl⟩
    · cases h
  refine ⟨fun j => if ((maskP pins s)[j]?.getD none).isSome then fp j else [], ⟨by rw [maskP_length, List.length_map, hl], r.fz, r.pr, fun j d h => ?_, fun j h => ?_, fun j => ?_, fun j k a h1 h2 => r.dj j k a (mem h1).2 (mem h2).2, fun j a h => r.fr j a (mem h).2, fun j v h => ?_, r.fd⟩, fun j a h => (mem h).2⟩
  · obtain ⟨h1, h2⟩ := maskP_some h
    obtain ⟨v, h3, h4⟩ := r.sl j d h2
    have hj : j < vs.length := by rw [hl]; exact (List.getElem?_eq_some_iff.mp h1).1
    have e : pnOf pins vs j = some vs[j] := by unfold pnOf; rw [if_pos h1]; exact List.getElem?_eq_getElem hj
    have e2 := r.pn j _ e
    rw [h3] at e2
    cases e2
    refine ⟨vs[j], by rw [List.getElem?_map, List.getElem?_eq_getElem hj]; rfl, ?_⟩
    rw [if_pos (by rw [h]; rfl)]
    exact h4
  · show (if ((maskP pins s)[j]?.getD none).isSome then fp j else []) = []
    rw [if_neg]
    intro hc
    cases e : (maskP pins s)[j]? with
    | none => rw [e] at hc; cases hc
    | some x =>
      cases x with
      | none => rw [e] at hc; cases hc
      | some d => exact h d e
  · show (if ((maskP pins s)[j]?.getD none).isSome then fp j else []).Nodup
    split
    · exact r.nd j
    · exact List.nodup_nil
  · rw [List.getElem?_map, (pnOf_some h).2]
    rfl
/-- THE RULE of a def: its body's meaning -/
theorem fn_ok {P : Program} {w : World} {K : PySem.W.Frag} {mg : Str → Option Value} {base : Heap} {k : Nat} {fa : Addr} {name qual : Str} {params : Arguments} {body : List Stmt} {scope : Scope} {dV kV doc pm cdv ct oc : Value} {an od : Option Addr}
    {osl : Array (Option Value)} {N ps : List Str} {cA : Nat → Addr} {f : Sl → Fl} {pins : List Bool} (lk : K.lookup fa = some ⟨oc, od, .func (PySem.W.fnOf name qual params body scope dV kV doc pm an cdv ct), osl⟩) (hcd : PySem.W.codeIn K cdv qual = true) (S : FnScope N ps scope) (hps : ps.length = pins.length)
    (hbody : ∀ (A : Around) (outer : List Env) (s : Shared) (H : Hp) (E : XK) (W : Gx), Room k (A.deeper (envOfC qual scope s.heap.objs.size fa cdv)) → Takes (cxOf (L2.CX P w) P w K mg base N qual scope fa cdv A outer s H E) W.w → (∀ i, pins[i]? ≠ some true → W.pn i = none) →
      SSs (cxOf (L2.CX P w) P w K mg base N qual scope fa cdv A outer s H E) cA W body f) :
    FnOk P w K mg base (L2.CX P w) (k + 1) fa (PySem.W.fnOf name qual params body scope dV kV doc pm an cdv ct) ps (spF K cA (calOf f N.length pins) pins) := by
  refine fn_of lk hcd S (fun vs H Q E h => ?_) fun A outer s H vs Q E hr h => ?_
  · obtain ⟨F, P, fp, ds, r, hl, _⟩ := h
    have := r.len
    rw [List.length_map, List.length_map] at this
    omega
  · obtain ⟨F, P1, fp, ds, r, hl, p⟩ := h
    have hlv : vs.length = pins.length := by
      have := r.len
      rw [List.length_map, List.length_map] at this
      omega
    have hds : ds.length = vs.length := by omega
    refine ⟨_, hbody A outer s H E ⟨fun cls dx _ H' => E cls dx H', P1, pnOf pins vs⟩ hr (takes_of rfl rfl rfl rfl) (fun i hi => ?_), F, fp, begS N.length ds, ?_, ?_⟩
    · show pnOf pins vs i = none
      unfold pnOf
      rw [if_neg hi]
    · have z := Rl.ext r (N.length - ds.length)
      have e : L2.start N vs = vs.map some ++ List.replicate (N.length - ds.length) none := by unfold L2.start; rw [hds]
      rw [e]
      exact z
    · unfold calOf at p
      cases hf : f (begS N.length ds) with
      | rt d s1 =>
        rw [hf] at p
        obtain ⟨_, p⟩ := p
        intro v σ' H' F' fp' g' r' q'
        obtain ⟨fp2, r2, hm⟩ := Rl.mask r' hlv
        obtain ⟨l, w1, nd, dj, fr⟩ := q'
        exact p v H' F' fp2 g' r2 ⟨l, w1, nd, fun j a h1 h2 => dj j a h1 (hm j a h2), fr⟩
      | nx s1 =>
        rw [hf] at p
        obtain ⟨_, p⟩ := p
        intro σ' H' F' fp' g' r'
        obtain ⟨fp2, r2, hm⟩ := Rl.mask r' hlv
        exact p .non H' F' fp2 g' r2 (Ev.fro (W := ⟨fun _ _ _ _ => False, P1, pnOf pins vs⟩) rfl rfl)
      | ex x s1 =>
        rw [hf] at p
        obtain ⟨_, p⟩ := p
        intro cls dx σ' H' F' fp' g' r' q'
        obtain ⟨fp2, r2, hm⟩ := Rl.mask r' hlv
        exact p cls dx H' F' fp2 g' r2 q'
      | bk s1 => rw [hf] at p; exact p.elim
      | ct s1 => rw [hf] at p; exact p.elim
      | no => rw [hf] at p; exact p.elim
end
end NS
namespace NS
open PySem PySem.Spec PyProof.Rows L2

/-! ## 12. own lists changed -/
def stoS (i : Nat) (fi fe : Sl → R EV) : Sl → Fl := fun s => penE fe (fun ev s1 => match s1[i]? with
  | some (some (.lst true _)) => penE fi (fun ei s2 => match evV ev s2 with
    | some (d, s3) => match evR ei s3, s3[i]? with
      | some (.int k), some (some (.lst true xs)) => match ixN xs.length k with
        | some j => .ok () (s3.set i (some (.lst true (xs.set j d))))
        | none => .no
      | _, _ => .no
    | none => .no) s1
  | _ => .no) s |>.to fun _ s1 => .nx s1
def appE (i : Nat) (f : Sl → R EV) : Sl → R EV := fun s => match s[i]? with
  | some (some (.lst true _)) => penE f (fun ev s1 => match evV ev s1 with
    | some (d, s2) => match s2[i]? with
      | some (some (.lst true xs)) => if fits (xs.length + 1) then .ok (.val .non) (s2.set i (some (.lst true (xs ++ [d])))) else .no
      | _ => .no
    | none => .no) s
  | _ => .no
def D.items : D → Option (List D)
  | .lst _ xs => some xs
  | _ => none
def extE (i : Nat) (f : Sl → R EV) : Sl → R EV := fun s => match s[i]? with
  | some (some (.lst true _)) => penE f (fun ev s1 => match (evR ev s1).bind D.items with
    | some ys => match s1[i]? with
      | some (some (.lst true xs)) => if fits (xs.length + ys.length) then .ok (.val .non) (s1.set i (some (.lst true (xs ++ ys)))) else .no
      | _ => .no
    | none => .no) s
  | _ => .no
def popE (i : Nat) : Sl → R EV := fun s => match s[i]? with
  | some (some (.lst true xs)) => match xs[xs.length - 1]? with
    | some d => if d.own then .no else .ok (.val d) (s.set i (some (.lst true xs.dropLast)))
    | none => .no
  | _ => .no

/-- *e: its items -/
def D.its : D → Option (List D)
  | .lst _ xs => some xs
  | .tup xs => some xs
  | _ => none
def starK (k : Sl → R (List EV)) (ev : EV) (s : Sl) : R (List EV) := match (evR ev s).bind D.its with
  | some ds => if plainL ds then (k s).bind fun es s2 => .ok (ds.map EV.val ++ es) s2 else .no
  | none => .no
def argsX : List (Bool × (Sl → R EV)) → Sl → R (List EV)
  | [], s => .ok [] s
  | (false, f) :: fs, s => penE f (fun e s1 => (argsX fs s1).bind fun es s2 => .ok (e :: es) s2) s
  | (true, f) :: fs, s => penE f (starK (argsX fs)) s
def valsX (fs : List (Bool × (Sl → R EV))) : Sl → R (List D) := fun s => (argsX fs s).bind fun es s1 => match evVs es s1 with
  | some (ds, s2) => .ok ds s2
  | none => .no

section
variable {X : Cx} {cA : Nat → Addr} {W : Gx} {e a b c : Expr} {es : List Expr} {f g h : Sl → R EV} {pos : Pos}
/-- a slot's own list in the heap -/
theorem own_list {F H : Hp} {fp : Nat → List Addr} {s : Sl} {σ : L2.St} {i : Nat} {xs : List D} {v : V} (r : Rl X.K cA F W.P W.pn fp s σ H) (e : s[i]? = some (some (.lst true xs))) (hv : σ[i]? = some (some v)) : ∃ p vs, v = .ref p ∧ H p = some (.lst vs) ∧ RepFs X.K cA F xs vs ∧ fp i = [p] := by
  obtain ⟨u, h1, q⟩ := r.sl i _ e
  rw [hv] at h1
  cases h1
  obtain ⟨p, vs, rfl, h2, h3, h4⟩ := q
  exact ⟨p, vs, rfl, h2, h3, h4⟩
theorem own_set {F H : Hp} {fp : Nat → List Addr} {s : Sl} {σ : L2.St} {i : Nat} {xs ys : List D} {p : Addr} {us : List V} (r : Rl X.K cA F W.P W.pn fp s σ H) (e : s[i]? = some (some (.lst true xs))) (hv : σ[i]? = some (some (.ref p))) (hf : fp i = [p]) (n : RepFs X.K cA F ys us) :
    Rl X.K cA F W.P W.pn fp (s.set i (some (.lst true ys))) σ (upd H p (.lst us)) :=
  r.write e hv (by rw [hf]; simp) ⟨p, us, rfl, upd_same, n, hf⟩
theorem name_al {F H : Hp} {fp : Nat → List Addr} {s : Sl} {σ : L2.St} {i : Nat} {d : D} {Q : VK} (r : Rl X.K cA F W.P W.pn fp s σ H) (e : s[i]? = some (some d)) (ho : d.own = true) (hQ : ∀ v H' F' fp', Same F F' → Rl X.K cA F' W.P W.pn fp' s σ H' → σ[i]? = some (some v) → Q v H') : tE X.K cA W (nameE i) σ H Q := by
  refine ⟨F, fp, s, r, ?_⟩
  unfold nameE
  rw [e]
  simp only [ho, if_true]
  exact fun v H' F' fp' g r' q => hQ v H' F' fp' g r' q.2
theorem ss_sto {i : Nat} {x : Str} {p1 p2 : Pos} (hx : SE X cA W (.Name x p1) (nameE i)) (hi : SE X cA W b g) (he : SE X cA W e f) (hn : notComp e = true)
    (ha : ∀ v, assign (.Subscript (.Name x p1) b p2) X.env v = (do
      let ov ← holding [v] (eval (.Name x p1) X.env)
      let iv ← holding [v, ov] (eval b X.env)
      standAt p2
      holding [v, ov, iv] (setItem ov iv v)
      release [v, ov, iv] []) := by intro _; rfl) : SS X cA W (.Assign [.Subscript (.Name x p1) b p2] e pos) (stoS i g f) := by
  refine PS_mono (ps_asg he (pg_sub hx hi set_list ha) (show swapsWith e (some (.Subscript (.Name x p1) b p2)) pos.line X.env = pure false from swaps_no hn) rfl rfl) fun D σ H h => ?_
  obtain ⟨F, fp, s, r, p⟩ := h
  refine ⟨F, fp, s, r, ?_⟩
  have p' : PoS X.K cA W F D ((f s).to fun e s1 => (match s1[i]? with
      | some (some (.lst true _)) => penE g (fun ei s2 => match evV e.pend s2 with
        | some (d, s3) => match evR ei s3, s3[i]? with
          | some (.int k), some (some (.lst true xs)) => match ixN xs.length k with
            | some j => R.ok () (s3.set i (some (.lst true (xs.set j d))))
            | none => .no
          | _, _ => .no
        | none => .no) s1
      | _ => .no).to fun _ s1 => .nx s1) := by
    have z : stoS i g f s = ((f s).to fun e s1 => (match s1[i]? with
      | some (some (.lst true _)) => penE g (fun ei s2 => match evV e.pend s2 with
        | some (d, s3) => match evR ei s3, s3[i]? with
          | some (.int k), some (some (.lst true xs)) => match ixN xs.length k with
            | some j => R.ok () (s3.set i (some (.lst true (xs.set j d))))
            | none => .no
          | _, _ => .no
        | none => .no) s1
      | _ => .no).to fun _ s1 => .nx s1) := by
      unfold stoS penE
      cases f s <;> rfl
    rw [← z]
    exact p
  refine PoS.to p' fun ev s1 _ p1 v H1 F1 fp1 g1 r1 q1 => ?_
  obtain ⟨F2, g2, r2, q2⟩ := q1.pend r1
  have g12 := g1.trans g2
  split at p1
  · rename_i xs hxs
    refine name_al r2 hxs rfl fun o H3 F3 fp3 g3 r3 ho => ?_
    have p2 := PoS.to (C := fun (_ : Unit) s' => PoS X.K cA W F D (.nx s')) (σ := σ) p1 (fun _ _ _ z => z)
    have z := pen_run (C := fun F (_ : Unit) s' => PoS X.K cA W F D (.nx s')) (W := W) (fun F F' b s g h => PoS.up g h) r3 (Po.up (g12.trans g3) p2 fun _ _ _ z => PoS.up (g12.trans g3) z)
    obtain ⟨F0, fp0, s0, r0, p0⟩ := z
    refine ⟨F0, fp0, s0, r0, Po.up (Same.refl _) p0 fun ev' s' _ z y H4 F' fp' g' r' q' => ?_⟩
    obtain ⟨F5, fp5, s5, e5, r5, q5, g5, p5⟩ := z y H4 F' fp' g' r' q'
    split at p5
    · rename_i d s6 hd
      obtain ⟨F6, fp6, g6, r6, q6, _⟩ := Ep.evV r5 ((q2.mono g3).mono g5) hd
      split at p5
      · rename_i k ys hk hys
        split at p5
        · rename_i j hj
          obtain ⟨pa, vs, rfl, m, n, hf⟩ := own_list r6 hys ho
          have hl := n.length
          refine ⟨pa, vs, k, j, rfl, int_of r6 (q5.mono g6) hk, m, by rw [← hl]; exact hj, ?_⟩
          have p6 : PoS X.K cA W F5 D (.nx (s6.set i (some (.lst true (ys.set j d))))) := p5
          exact p6 σ _ F6 fp6 g6 (own_set r6 hys ho hf (n.set j q6))
        · exact p5.elim
      · exact p5.elim
    · exact p5.elim
  · exact p1.elim
/-- a method of a slot's own list -/
theorem se_app {i : Nat} {x : Str} {p1 apos cpos : Pos} (hx : SE X cA W (.Name x p1) (nameE i)) (ha : SE X cA W a f) (hs : noStar a = true) (hline : (apos.endLine == cpos.line) = true) : SE X cA W (.Call (.Attribute (.Name x p1) "append" apos) [a] [] cpos) (appE i f) := by
  have hst : starEach [a] X.env = (false, eval a X.env) :: starEach [] X.env := starEach_cons hs
  refine PE_mono (pe_bm PySem.F.plainAttrs_list PySem.F.slot_list_append PySem.F.type_list_append mt_append hx (pa_cons ha pa_nil hst) rfl (by rw [hst]; rfl) hline hst rfl) fun σ H Q h => ?_
  obtain ⟨F, fp, s, r, p⟩ := h
  unfold appE at p
  split at p
  · rename_i xs hxs
    refine name_al r hxs rfl fun o H3 F3 fp3 g3 r3 ho => ?_
    obtain ⟨pa, vs, rfl, m, n, hf⟩ := own_list r3 hxs ho
    refine ⟨.inl ⟨rfl, vs, .of m⟩, ?_⟩
    have z := pen_run (C := fun F => KE X.K cA W F σ Q) (W := W) KE_mono r3 (Po.up g3 p fun _ _ _ z => KE_mono _ _ _ _ g3 z)
    obtain ⟨F0, fp0, s0, r0, p0⟩ := z
    refine ⟨F0, fp0, s0, r0, Po.up (Same.refl _) p0 fun ev' s' _ z y H4 F' fp' g' r' q' => ?_⟩
    obtain ⟨F5, fp5, s5, e5, r5, q5, g5, p5⟩ := z y H4 F' fp' g' r' q'
    split at p5
    · rename_i d s6 hd
      obtain ⟨F6, fp6, g6, r6, q6, _⟩ := Ep.evV r5 q5 hd
      split at p5
      · rename_i ys hys
        split at p5
        · rename_i hfit
          obtain ⟨pa2, us, e2, m2, n2, hf2⟩ := own_list r6 hys ho
          cases e2
          have hl := n2.length
          have hfl := fits_le hfit
          refine ⟨pa, us, y, rfl, rfl, m2, Nat.lt_of_lt_of_le (by omega : us.length < LN) LN_le, ?_⟩
          have p6 : KE X.K cA W F5 σ Q (.val .non) (s6.set i (some (.lst true (ys ++ [d])))) := p5
          exact p6 .non _ F6 fp6 g6 (own_set r6 hys ho hf2 (n2.append (RepFs.one q6))) (Ev.fro rfl rfl)
        · exact p5.elim
      · exact p5.elim
    · exact p5.elim
  · exact p.elim
theorem se_ext {i : Nat} {x : Str} {p1 apos cpos : Pos} (hx : SE X cA W (.Name x p1) (nameE i)) (ha : SE X cA W a f) (hs : noStar a = true) (hline : (apos.endLine == cpos.line) = true) :
    SE X cA W (.Call (.Attribute (.Name x p1) "extend" apos) [a] [] cpos) (extE i f) := by
  have hst : starEach [a] X.env = (false, eval a X.env) :: starEach [] X.env := starEach_cons hs
  refine PE_mono (pe_bm PySem.F.plainAttrs_list PySem.F.slot_list_extend PySem.F.type_list_extend mt_extend hx (pa_cons ha pa_nil hst) rfl (by rw [hst]; rfl) hline hst rfl) fun σ H Q h => ?_
  obtain ⟨F, fp, s, r, p⟩ := h
  unfold extE at p
  split at p
  · rename_i xs hxs
    refine name_al r hxs rfl fun o H3 F3 fp3 g3 r3 ho => ?_
    obtain ⟨pa, vs, rfl, m, n, hf⟩ := own_list r3 hxs ho
    refine ⟨.inl ⟨rfl, vs, .of m⟩, ?_⟩
    have z := pen_run (C := fun F => KE X.K cA W F σ Q) (W := W) KE_mono r3 (Po.up g3 p fun _ _ _ z => KE_mono _ _ _ _ g3 z)
    obtain ⟨F0, fp0, s0, r0, p0⟩ := z
    refine ⟨F0, fp0, s0, r0, Po.up (Same.refl _) p0 fun ev' s' _ z y H4 F' fp' g' r' q' => ?_⟩
    obtain ⟨F5, fp5, s5, e5, r5, q5, g5, p5⟩ := z y H4 F' fp' g' r' q'
    split at p5
    · rename_i zs hzs
      split at p5
      · rename_i ys hys
        split at p5
        · rename_i hfit
          obtain ⟨pa2, us, e2, m2, n2, hf2⟩ := own_list r5 hys ho
          cases e2
          have hl := n2.length
          have hfl := fits_le hfit
          have p6 : KE X.K cA W F5 σ Q (.val .non) (s5.set i (some (.lst true (ys ++ zs)))) := p5
          obtain ⟨d, hd, hit⟩ := Option.bind_eq_some_iff.mp hzs
          cases d <;> simp only [D.items, reduceCtorEq, Option.some.injEq] at hit
          · subst hit
            obtain ⟨pb, ws, rfl, mb, nb⟩ := Ep.list r5 q5 hd
            have hl2 := nb.length
            exact ⟨pa, pb, us, ws, rfl, rfl, m2, mb, Nat.le_trans (by omega) LN_le, p6 .non _ F5 fp5 (Same.refl _) (own_set r5 hys ho hf2 (n2.append nb)) (Ev.fro rfl rfl)⟩
        · exact p5.elim
      · exact p5.elim
    · exact p5.elim
  · exact p.elim
theorem RepFs.dropLast {F : Hp} {ds : List D} {vs : List V} (h : RepFs X.K cA F ds vs) : RepFs X.K cA F ds.dropLast vs.dropLast := by
  rw [List.dropLast_eq_take, List.dropLast_eq_take, h.length]
  exact h.take _
theorem se_pop {i : Nat} {x : Str} {p1 apos cpos : Pos} (hx : SE X cA W (.Name x p1) (nameE i)) (hline : (apos.endLine == cpos.line) = true) : SE X cA W (.Call (.Attribute (.Name x p1) "pop" apos) [] [] cpos) (popE i) := by
  refine PE_mono (pe_bm0 PySem.F.plainAttrs_list PySem.F.slot_list_pop PySem.F.type_list_pop mt_pop hx rfl hline) fun σ H Q h => ?_
  obtain ⟨F, fp, s, r, p⟩ := h
  unfold popE at p
  split at p
  · rename_i xs hxs
    split at p
    · rename_i d hd
      split at p
      · exact p.elim
      · rename_i ho'
        refine name_al r hxs rfl fun o H3 F3 fp3 g3 r3 ho => ?_
        obtain ⟨pa, vs, rfl, m, n, hf⟩ := own_list r3 hxs ho
        refine ⟨.inl ⟨rfl, vs, .of m⟩, ?_⟩
        obtain ⟨v, hv, q⟩ := n.get hd
        refine ⟨pa, vs, v, rfl, rfl, m, by rw [← n.length]; exact hv, ?_⟩
        exact p v _ F3 fp3 g3 (own_set r3 hxs ho hf n.dropLast) (Ev.fro (by simpa using ho') q)
    · exact p.elim
  · exact p.elim

/-! ### displays with stars -/
theorem pend_items {F : Hp} {σ : L2.St} : ∀ {ds : List D} {vs : List V}, RepFs X.K cA F ds vs → plainL ds = true → ∀ {es : List EV} {us : List V}, Eps X.K cA F σ us es → Eps X.K cA F σ (vs ++ us) (ds.map EV.val ++ es)
  | [], vs, h, _, es, us, q => by
    cases (show vs = [] from h)
    exact q
  | d :: ds, vs, h, hp, es, us, q => by
    obtain ⟨v, r, rfl, h1, h2⟩ := h
    have hp : (!d.own && plainL ds) = true := hp
    rw [Bool.and_eq_true] at hp
    exact ⟨.val d, _, rfl, ⟨h1, by simpa using hp.1⟩, pend_items h2 hp.2 q⟩
theorem sa_plain {fs : List (Bool × (Sl → R EV))} (ha : SE X cA W e f) (hr : SA X cA W es (argsX fs)) (hs : noStar e = true) : SA X cA W (e :: es) (argsX ((false, f) :: fs)) := by
  refine PA_mono (pa_cons ha hr (starEach_cons hs)) fun σ H Q h => ?_
  obtain ⟨F, fp, s, r, p⟩ := h
  have z := pen_run (C := fun F => KA X.K cA W F σ Q) KA_mono r p
  obtain ⟨F0, fp0, s0, r0, p0⟩ := z
  refine ⟨F0, fp0, s0, r0, Po.up (Same.refl _) p0 fun ev s' _ z x H1 F' fp' g' r' q' => ?_⟩
  obtain ⟨F1, fp1, s1, e1, r1, q1, g1, p1⟩ := z x H1 F' fp' g' r' q'
  refine ⟨F1, fp1, s1, r1, Po.bind p1 fun es2 s2 _ p2 vs H2 F2 fp2 g2 r2 q2 => ?_⟩
  exact p2 (x :: vs) H2 F2 fp2 g2 r2 ⟨e1, es2, rfl, q1.mono g2, q2⟩
theorem sa_star {fs : List (Bool × (Sl → R EV))} {p : Pos} (ha : SE X cA W e f) (hr : SA X cA W es (argsX fs)) : SA X cA W (.Starred e p :: es) (argsX ((true, f) :: fs)) := by
  refine PA_mono (StX.pa_star ha hr) fun σ H Q h => ?_
  obtain ⟨F, fp, s, r, p⟩ := h
  have z := pen_run (C := fun F => KA X.K cA W F σ Q) KA_mono r p
  obtain ⟨F0, fp0, s0, r0, p0⟩ := z
  refine ⟨F0, fp0, s0, r0, Po.up (Same.refl _) p0 fun ev s' _ z x H1 F' fp' g' r' q' => ?_⟩
  obtain ⟨F1, fp1, s1, e1, r1, q1, g1, p1⟩ := z x H1 F' fp' g' r' q'
  unfold starK at p1
  split at p1
  · rename_i ds hds
    split at p1
    · rename_i hp
      obtain ⟨d, hd, hit⟩ := Option.bind_eq_some_iff.mp hds
      have key : ∃ a xs, x = .ref a ∧ (SqT X.K H1 a xs ∨ SqL X.K H1 a xs) ∧ RepFs X.K cA F1 ds xs := by
        cases d <;> simp only [D.items, reduceCtorEq, Option.some.injEq, D.its] at hit
        · subst hit
          obtain ⟨a, xs, rfl, m, n⟩ := Ep.flat r1 q1 hd rfl
          exact ⟨a, xs, rfl, .inl (SqT_mono m r1.fz), n⟩
        · subst hit
          obtain ⟨a, xs, rfl, m, n⟩ := Ep.list r1 q1 hd
          exact ⟨a, xs, rfl, .inr (.of m), n⟩
      obtain ⟨a, xs, rfl, m, n⟩ := key
      refine ⟨a, xs, rfl, m, F1, fp1, s1, r1, Po.bind p1 fun es2 s2 _ p2 vs H2 F2 fp2 g2 r2 q2 => ?_⟩
      exact p2 (xs ++ vs) H2 F2 fp2 g2 r2 (pend_items (n.mono g2) hp q2)
    · exact p1.elim
  · exact p1.elim
theorem sa_nilX : SA X cA W [] (argsX []) := by
  refine PA_mono pa_nil fun σ H Q h => ?_
  obtain ⟨F, fp, s, r, p⟩ := h
  exact p [] H F fp (Same.refl F) r rfl
theorem sv_ofX {fs : List (Bool × (Sl → R EV))} (ha : SA X cA W es (argsX fs)) : SV X cA W es (valsX fs) := by
  refine PA_mono ha fun σ H Q h => ?_
  obtain ⟨F, fp, s, r, p⟩ := h
  refine ⟨F, fp, s, r, Po.bind p fun es1 s1 _ p1 vs H1 F1 fp1 g1 r1 q1 => ?_⟩
  split at p1
  · rename_i ds s2 hd
    obtain ⟨F2, fp2, g2, r2, q2⟩ := Eps.evVs r1 q1 hd
    exact p1 vs H1 F2 fp2 (g1.trans g2) r2 q2
  · exact p1.elim
end
end NS
namespace NS
open PySem PySem.Spec PyProof.Rows L2

/-! ## 13. a text's meaning -/
inductive GB where
  | fn (i : Nat)
  | cst (d : D)
structure Cfg where
  N : List Str
  sc : Scope
  gl : List (Str × GB)
  fs : List (List Bool)
  pz : List Bool
  lp : Bool
def mapO {α β : Type} (f : α → Option β) : List α → Option (List β)
  | [] => some []
  | a :: as => (f a).bind fun b => (mapO f as).bind fun bs => some (b :: bs)
def visB (sc : Scope) (x : Str) : Bool := match sc.names.lookup x with
  | some .local => true
  | some .cell => true
  | some .free => true
  | _ => false
def glB (sc : Scope) (x : Str) : Bool := match sc.names.lookup x with
  | some .globalImplicit => true
  | _ => false
def slotOf (x : Str) : List Str → Option Nat
  | [] => none
  | y :: ys => if x == y then some 0 else (slotOf x ys).map (· + 1)
def okName (x : Str) : Bool := !(x == ("__debug__" : Str)) && !(x == ("__classdict__" : Str))
/-- names that may be stored to -/
def locB (Γ : Cfg) (x : Str) : Bool := match Γ.sc.names.lookup x with
  | some .local => true
  | some .cell => Γ.lp
  | _ => false
def slotV (Γ : Cfg) (x : Str) : Option Nat := if visB Γ.sc x && okName x then slotOf x Γ.N else none
def slotL (Γ : Cfg) (x : Str) : Option Nat := if locB Γ x then (slotOf x Γ.N).bind fun i => match Γ.pz[i]? with
  | some true => none
  | _ => some i else none
def nmSlots (Γ : Cfg) : List Expr → Option (List Nat)
  | [] => some []
  | .Name x _ :: es => (slotL Γ x).bind fun i => (nmSlots Γ es).bind fun is => some (i :: is)
  | _ => none
def semG (Γ : Cfg) : Expr → Option ((D → Sl → Option Sl) × List Nat)
  | .Name x _ => (slotL Γ x).map fun i => (tgN i, [i])
  | .Tuple es _ _ => (nmSlots Γ es).map fun is => (tgT' is, is)
  | _ => none
def ownOf (N : List Str) : List (Str × NameKind) → List (Str × Nat)
  | [] => []
  | (x, k) :: r => match k, slotOf x N with
    | .local, some i => (x, i) :: ownOf N r
    | .cell, some i => (x, i) :: ownOf N r
    | _, _ => ownOf N r
def isGl (Γ : Cfg) (x : Str) : Bool := glB Γ.sc x && (Γ.gl.lookup x).isNone
def freeP (pz : List Bool) (p : Str × Nat) : Bool := match pz[p.2]? with
  | some true => false
  | _ => true
/-- a name of a slot, walked -/
def walked (Γ : Cfg) : Expr → Option Nat
  | .Name x _ => slotV Γ x
  | _ => none
def whFuel : Nat := 100000

mutual
def semE (cal : Nat → List D → CR) : Nat → Cfg → Expr → Option (Sl → R EV)
  | 0, _, _ => none
  | n + 1, Γ, .Name x _ => if visB Γ.sc x then (slotV Γ x).map nameE else if glB Γ.sc x && okName x then (match Γ.gl.lookup x with
      | some (.cst d) => some (constE d)
      | _ => none) else none
  | n + 1, Γ, .Constant (.int i) _ _ => some (constE (.int i))
  | n + 1, Γ, .Constant (.bool b) _ _ => some (constE (.bl b))
  | n + 1, Γ, .Constant .none _ _ => some (constE .non)
  | n + 1, Γ, .Constant (.str x) _ _ => some (constE (.str x))
  | n + 1, Γ, .Tuple es _ _ => if es.all noStar then (mapO (semE cal n Γ) es).map fun fs => tupE (valsE fs) else (semX cal n Γ es).map fun fs => tupE (valsX fs)
  | n + 1, Γ, .List es _ => if es.all noStar then (mapO (semE cal n Γ) es).map fun fs => lstE (valsE fs) else (semX cal n Γ es).map fun fs => lstE (valsX fs)
  | n + 1, Γ, .BinOp a o b _ => (semE cal n Γ a).bind fun f => (semE cal n Γ b).bind fun g => some (bin2 f g (op2K (binD o)))
  | n + 1, Γ, .UnaryOp .USub a _ => (semE cal n Γ a).bind fun f => some (penE f (op1K negD))
  | n + 1, Γ, .UnaryOp .Not a _ => (semE cal n Γ a).bind fun f => some (notE f)
  | n + 1, Γ, .BoolOp _ [a] _ => semE cal n Γ a
  | n + 1, Γ, .BoolOp .And (a :: b :: r) p => (semE cal n Γ a).bind fun f => (semE cal n Γ (.BoolOp .And (b :: r) p)).bind fun g => some (andE f g)
  | n + 1, Γ, .BoolOp .Or (a :: b :: r) p => (semE cal n Γ a).bind fun f => (semE cal n Γ (.BoolOp .Or (b :: r) p)).bind fun g => some (orE f g)
  | n + 1, Γ, .Compare a [o] [b] _ => if notSet b then (semE cal n Γ a).bind fun f => (semE cal n Γ b).bind fun g => some (valB (cmpT o f g)) else none
  | n + 1, Γ, .Compare a [o, o'] [b, c] _ => if notSet c then (semE cal n Γ a).bind fun f => (semE cal n Γ b).bind fun g => (semE cal n Γ c).bind fun h => some (valB (chainT o o' f g h)) else none
  | n + 1, Γ, .IfExp c a b _ => (semT cal n Γ c).bind fun t => (semE cal n Γ a).bind fun f => (semE cal n Γ b).bind fun g => some (ifE t f g)
  | n + 1, Γ, .Subscript a (.Slice lo hi none _) _ => (semE cal n Γ a).bind fun f => (semO cal n Γ lo).bind fun l => (semO cal n Γ hi).bind fun h => some (slE f l h)
  | n + 1, Γ, .Subscript a b _ => if notSlice b then (semE cal n Γ a).bind fun f => (semE cal n Γ b).bind fun g => some (bin2 f g ixK) else none
  | n + 1, Γ, .ListComp elt [⟨tg, iter, ifs, 0⟩] scope _ => semLc cal n Γ elt tg iter ifs scope
  | n + 1, Γ, .Call (.Name x _) args [] _ => if glB Γ.sc x && okName x && args.all noStar then (match Γ.gl.lookup x with
      | some (.fn i) => (match args, Γ.fs[i]? with
        | _ :: _, some pins => (mapO (semE cal n Γ) args).map fun fs => callE (cal i) pins fs
        | _, _ => none)
      | some (.cst _) => none
      | none => (match args with
        | [a, .Name y _] => if x == ("isinstance" : Str) then (match TN.of y with
          | some t => if isGl Γ y then (semE cal n Γ a).map fun f => isiE t f else none
          | none => none) else semB cal n Γ x args
        | _ => semB cal n Γ x args)) else none
  | n + 1, Γ, .Call (.Attribute (.Name x _) m apos) args [] cpos => if (apos.endLine == cpos.line) then (slotV Γ x).bind fun i => (match args with
      | [] => if m == ("pop" : Str) then some (popE i) else none
      | [a] => if noStar a then (semE cal n Γ a).bind fun f => if m == ("append" : Str) then some (appE i f) else if m == ("extend" : Str) then some (extE i f) else none else none
      | _ => none) else none
  | _, _, _ => none
def semX (cal : Nat → List D → CR) : Nat → Cfg → List Expr → Option (List (Bool × (Sl → R EV)))
  | 0, _, _ => none
  | n + 1, Γ, [] => some []
  | n + 1, Γ, .Starred e _ :: es => (semE cal n Γ e).bind fun f => (semX cal n Γ es).bind fun fs => some ((true, f) :: fs)
  | n + 1, Γ, e :: es => if noStar e then (semE cal n Γ e).bind fun f => (semX cal n Γ es).bind fun fs => some ((false, f) :: fs) else none
def semB (cal : Nat → List D → CR) : Nat → Cfg → Str → List Expr → Option (Sl → R EV)
  | 0, _, _, _ => none
  | n + 1, Γ, x, args => match args, BI.of x with
    | _ :: _, some b => (mapO (semE cal n Γ) args).map fun fs => bltE b.op fs
    | _, _ => none
def semO (cal : Nat → List D → CR) : Nat → Cfg → Option Expr → Option (Option (Sl → R EV))
  | 0, _, _ => none
  | n + 1, Γ, none => some none
  | n + 1, Γ, some e => (semE cal n Γ e).map some
def semT (cal : Nat → List D → CR) : Nat → Cfg → Expr → Option (Sl → R Bool)
  | 0, _, _ => none
  | n + 1, Γ, .UnaryOp .Not a _ => (semT cal n Γ a).map notT
  | n + 1, Γ, .BoolOp o es p => semW cal n Γ o es p
  | n + 1, Γ, .Compare a [o] [b] _ => if notSet b then (semE cal n Γ a).bind fun f => (semE cal n Γ b).bind fun g => some (cmpT o f g) else none
  | n + 1, Γ, .Compare a [o, o'] [b, c] _ => if notSet c then (semE cal n Γ a).bind fun f => (semE cal n Γ b).bind fun g => (semE cal n Γ c).bind fun h => some (chainT o o' f g h) else none
  | n + 1, Γ, e => if plainTest e then (semE cal n Γ e).map truT else none
def semW (cal : Nat → List D → CR) : Nat → Cfg → BoolOp → List Expr → Pos → Option (Sl → R Bool)
  | 0, _, _, _, _ => none
  | n + 1, Γ, o, [a], p => semT cal n Γ a
  | n + 1, Γ, .And, a :: b :: r, p => (semT cal n Γ a).bind fun f => (semW cal n Γ .And (b :: r) p).bind fun g => some (andT f g)
  | n + 1, Γ, .Or, a :: b :: r, p => (semT cal n Γ a).bind fun f => (semW cal n Γ .Or (b :: r) p).bind fun g => some (orT f g)
  | _, _, _, _, _ => none
def semI (cal : Nat → List D → CR) : Nat → Cfg → Expr → Expr → Option (Sl → R (List D))
  | 0, _, _, _ => none
  | n + 1, Γ, tg, .Call (.Name x p) args [] pos => if isGl Γ x && args.all noStar then (match args with
      | [a] => if x == ("range" : Str) then (semE cal n Γ a).map rng1 else if x == ("enumerate" : Str) then (match tg with
        | .Tuple _ _ _ => (semE cal n Γ a).map enumI
        | _ => none) else (semE cal n Γ (.Call (.Name x p) args [] pos)).map fun f => plI (seqI f)
      | [a, b] => if x == ("range" : Str) then (semE cal n Γ a).bind fun f => (semE cal n Γ b).map fun g => rng2 f g else if x == ("zip" : Str) then (match tg with
        | .Tuple _ _ _ => (semE cal n Γ a).bind fun f => (semE cal n Γ b).map fun g => zipI f g
        | _ => none) else (semE cal n Γ (.Call (.Name x p) args [] pos)).map fun f => plI (seqI f)
      | _ => none) else (semE cal n Γ (.Call (.Name x p) args [] pos)).map fun f => plI (seqI f)
  | n + 1, Γ, _, e => (semE cal n Γ e).map fun f => plI (seqI f)
def semLc (cal : Nat → List D → CR) : Nat → Cfg → Expr → Expr → Expr → List Expr → Scope → Option (Sl → R EV)
  | 0, _, _, _, _, _, _ => none
  | n + 1, Γ, elt, tg, iter, ifs, scope =>
    let own : List (Str × Nat) := ownOf Γ.N scope.names
    let Γ' : Cfg := { Γ with sc := relS scope Γ.sc, lp := false }
    if blkC Γ.N Γ.sc scope own && notSet iter && own.all (freeP Γ.pz) then (semI cal n Γ tg iter).bind fun gi => (semG Γ' tg).bind fun (t : (D → Sl → Option Sl) × List Nat) => (match ifs with
        | [] => some yesT
        | [c] => semT cal n Γ' c
        | _ => none).bind fun (tc : Sl → R Bool) => (semE cal n Γ' elt).bind fun (f : Sl → R EV) => if t.2.all (fun (i : Nat) => (own.map (fun (p : Str × Nat) => p.2)).contains i) then some (match walked Γ iter with
          | some i => lcO i t.1 (own.map (fun (p : Str × Nat) => p.2)) tc f
          | none => lcE gi t.1 (own.map (fun (p : Str × Nat) => p.2)) tc f) else none
    else none
end
def brkS : Sl → Fl := fun s => .bk s
def cntS : Sl → Fl := fun s => .ct s
def swB (elt : Expr) (scope : Scope) (pos : Pos) (y : Str) (py : Pos) (sl : Nat) (sc : Scope) : Bool := (match sc.names.lookup y with
  | some .local => true
  | _ => false) && (match sc.kind with
  | .function => true
  | _ => false) && (py.line == pos.line) && !(scope.names.any fun (n, k) => n == y && (k == .local || k == .cell))
def cellB (sc : Scope) (x : Str) : Bool := match sc.names.lookup x with
  | some .cell => true
  | _ => false
mutual
def semS (cal : Nat → List D → CR) : Nat → Cfg → Stmt → Option (Sl → Fl)
  | 0, _, _ => none
  | n + 1, Γ, .Pass _ => some nxS
  | n + 1, Γ, .Break _ => some brkS
  | n + 1, Γ, .Continue _ => some cntS
  | n + 1, Γ, .Expr (.Constant (.str _) _ _) _ => some nxS
  | n + 1, Γ, .Return none _ => some retN
  | n + 1, Γ, .Return (some e) _ => (semE cal n Γ e).map retS
  | n + 1, Γ, .Expr e _ => if notComp e then (semE cal n Γ e).map exprS else none
  | n + 1, Γ, .If c a b _ => (semT cal n Γ c).bind fun t => (semSs cal n Γ a).bind fun f => (semSs cal n Γ b).bind fun g => some (ifS t f g)
  | n + 1, Γ, .Assign [.Name x py] e spos => (slotL Γ x).bind fun i => (match e with
      | .ListComp elt [⟨tg, iter, ifs, 0⟩] scope pos => if swB elt scope pos x py spos.line Γ.sc && Γ.lp then (semLc cal n Γ elt tg iter ifs scope).map (setS i) else if cellB Γ.sc x then (semLc cal n Γ elt tg iter ifs scope).map (setS i) else none
      | e => if notComp e then (semE cal n Γ e).map (setS i) else none)
  | n + 1, Γ, .Assign [.Tuple es k p] e _ => if notComp e && (match e with
      | .Tuple _ _ _ => false
      | _ => true) then (semG Γ (.Tuple es k p)).bind fun t => (semE cal n Γ e).map fun f => asgS t.1 f else none
  | n + 1, Γ, .Assign [.Subscript (.Name x p1) b p2] e _ => if notComp e && notSlice b then (slotV Γ x).bind fun i => (semE cal n Γ b).bind fun g => (semE cal n Γ e).map fun f => stoS i g f else none
  | n + 1, Γ, .For tg iter body [] _ => if Γ.lp && notSet iter then (semI cal n Γ tg iter).bind fun gi => (semG Γ tg).bind fun t => (semSs cal n Γ body).bind fun f => some (forS gi t.1 f) else none
  | n + 1, Γ, .While c body [] _ => if Γ.lp then (semT cal n Γ c).bind fun t => (semSs cal n Γ body).bind fun f => some (whL t f whFuel) else none
  | _, _, _ => none
def semSs (cal : Nat → List D → CR) : Nat → Cfg → List Stmt → Option (Sl → Fl)
  | 0, _, _ => none
  | n + 1, Γ, [] => some nxS
  | n + 1, Γ, [st] => semS cal n Γ st
  | n + 1, Γ, st :: sts => (semS cal n Γ st).bind fun f => (semSs cal n Γ sts).bind fun g => some (seqS f g)
end
end NS
namespace NS
open PySem PySem.Spec PyProof.Rows L2

/-! ## 14. the meaning is right -/
def bltNames : List Str := ["len", "int", "str", "list", "tuple", "dict", "max", "min", "sum", "any", "all", "sorted", "range", "zip", "enumerate", "isinstance", "bool", "super"]
structure Cok (cal : Nat → List D → CR) (cA : Nat → Addr) (X : Cx) (W : Gx) (Γ : Cfg) : Prop where
  N : X.N = Γ.N
  nd : Γ.N.Nodup
  sc : X.env.scope = Γ.sc
  calm : X.calm = true
  glo : ∀ x d, Γ.gl.lookup x = some (.cst d) → ∃ v u, X.mg x = some u ∧ RelV v u ∧ d.own = false ∧ RepF X.K cA (fun _ => none) d v
  fns : ∀ x i pins, Γ.gl.lookup x = some (.fn i) → Γ.fs[i]? = some pins → ∃ k fa fd ps, FnOk X.prog X.w X.K X.mg X.base (L2.CX X.prog X.w) k fa fd ps (spF X.K cA (cal i) pins) ∧ Room k X.A ∧ X.mg x = some (.ref fa) ∧ PySem.W.keepIn X.K (.ref fa) = true ∧ L2.Binds X.K fd ps []
  blt : ∀ x, Γ.gl.lookup x = none → x ∈ bltNames → X.mg x = none
  tk : Takes X W.w
  pins : ∀ i, Γ.pz[i]? ≠ some true → W.pn i = none
  lp : Γ.lp = true → PassesOwn (model X.prog X.w) X.A X.env X.xe ∧ ∀ x, X.fn x = true
  un : X.A.units + 130 < cLine
theorem slotOf_get {x : Str} : ∀ {N : List Str} {i : Nat}, slotOf x N = some i → N[i]? = some x
  | [], i, h => by cases h
  | y :: ys, i, h => by
    simp only [slotOf] at h
    split at h
    · rename_i e
      cases h
      rw [beq_iff_eq.mp e]
      rfl
    · obtain ⟨j, hj, rfl⟩ := Option.map_eq_some_iff.mp h
      rw [List.getElem?_cons_succ]
      exact slotOf_get hj
theorem okName_of {x : Str} (h : okName x = true) : (x == ("__debug__" : Str)) = false ∧ (x == ("__classdict__" : Str)) = false := by
  unfold okName at h
  rw [Bool.and_eq_true] at h
  exact ⟨by simpa using h.1, by simpa using h.2⟩
section
variable {cal : Nat → List D → CR} {cA : Nat → Addr} {X : Cx} {W : Gx} {Γ : Cfg}
theorem Cok.vis (C : Cok cal cA X W Γ) {x : Str} (h : visB Γ.sc x = true) : Vis X.env.scope x := by
  unfold visB at h
  rw [C.sc]
  split at h
  · rename_i e; exact .inl e
  · rename_i e; exact .inr (.inl e)
  · rename_i e; exact .inr (.inr e)
  · cases h
theorem Cok.gl_ (C : Cok cal cA X W Γ) {x : Str} (h : glB Γ.sc x = true) : Gl X x := by
  unfold glB at h
  show X.env.scope.names.lookup x = _
  rw [C.sc]
  split at h
  · rename_i e; exact e
  · cases h
theorem Cok.name (C : Cok cal cA X W Γ) {x : Str} {i : Nat} {p : Pos} (h : slotV Γ x = some i) : SE X cA W (.Name x p) (nameE i) := by
  unfold slotV at h
  split at h
  · rename_i hc
    rw [Bool.and_eq_true] at hc
    have z := okName_of hc.2
    exact se_name (by rw [C.N]; exact slotOf_get h) (C.vis hc.1) z.1 z.2
  · cases h
theorem Cok.loc (C : Cok cal cA X W Γ) {x : Str} {i : Nat} (h : slotL Γ x = some i) : X.N[i]? = some x ∧ Loc X.env.scope x ∧ (X.fn x = true ∨ X.env.scope.names.lookup x = some .local) ∧ W.pn i = none := by
  unfold slotL at h
  split at h
  · rename_i hl
    obtain ⟨j, hj, h⟩ := Option.bind_eq_some_iff.mp h
    have hi : j = i ∧ Γ.pz[i]? ≠ some true := by
      split at h
      · cases h
      · rename_i hne
        cases h
        exact ⟨rfl, hne⟩
    obtain ⟨rfl, hp⟩ := hi
    unfold locB at hl
    refine ⟨by rw [C.N]; exact slotOf_get hj, ?_, ?_, C.pins _ hp⟩
    · rw [C.sc]
      split at hl
      · rename_i e; exact .inl e
      · rename_i e; exact .inr e
      · cases hl
    · rw [C.sc]
      split at hl
      · rename_i e; exact .inr e
      · exact .inl ((C.lp hl).2 x)
      · cases hl
  · cases h
theorem Cok.names (C : Cok cal cA X W Γ) : ∀ {es : List Expr} {is : List Nat}, nmSlots Γ es = some is → NmOk X W es is
  | [], is, h => by cases h; exact .nil
  | e :: es, is, h => by
    cases e <;> simp only [nmSlots, reduceCtorEq] at h
    obtain ⟨i, hi, h⟩ := Option.bind_eq_some_iff.mp h
    obtain ⟨is', his, h⟩ := Option.bind_eq_some_iff.mp h
    cases h
    obtain ⟨h1, h2, h3, h4⟩ := C.loc hi
    exact .cons h1 h2 h3 h4 (C.names his)
theorem Cok.tgt (C : Cok cal cA X W Γ) {e : Expr} {t : (D → Sl → Option Sl) × List Nat} (h : semG Γ e = some t) : TgOk X cA W e t.1 t.2 := by
  cases e <;> simp only [semG, reduceCtorEq] at h
  · obtain ⟨i, hi, rfl⟩ := Option.map_eq_some_iff.mp h
    obtain ⟨h1, h2, h3, h4⟩ := C.loc hi
    exact tg_name (by rw [C.N]; exact C.nd) h1 h2 h3 h4
  · obtain ⟨is, his, rfl⟩ := Option.map_eq_some_iff.mp h
    exact tg_tup C.calm (by rw [C.N]; exact C.nd) (C.names his)
theorem Cok.isGl (C : Cok cal cA X W Γ) {x : Str} (h : isGl Γ x = true) (hb : x ∈ bltNames) : Gl X x ∧ X.mg x = none := by
  unfold NS.isGl at h
  rw [Bool.and_eq_true] at h
  exact ⟨C.gl_ h.1, C.blt x (by simpa using h.2) hb⟩
theorem relabel_eq {scope : Scope} {env : Env} : relabel scope env = relS scope env.scope := rfl
theorem blk_takes {s : Shared} {H : Hp} {scope : Scope} {ce : Env} {fp : List Addr} : Takes (X.blk s H scope ce fp) (fun _ _ _ _ => False) := takes0
theorem Cok.blk (C : Cok cal cA X W Γ) {s : Shared} {H : Hp} {scope : Scope} {A : Addr} {cl : List (Str × Addr)} {fp : List Addr} {P : Hp} : Cok cal cA (X.blk s H scope (compEnvC scope cl A X.env) fp) (W.blk P) { Γ with sc := relS scope Γ.sc, lp := false } where
  N := C.N
  nd := C.nd
  sc := by
    show relS scope X.env.scope = _
    rw [C.sc]
  calm := C.calm
  glo := C.glo
  fns := C.fns
  blt := C.blt
  tk := takes0
  pins := C.pins
  lp := fun h => by cases h
  un := C.un
theorem ownOf_ix {N : List Str} : ∀ {l : List (Str × NameKind)} {p : Str × Nat}, p ∈ ownOf N l → N[p.2]? = some p.1
  | [], p, h => by cases h
  | (x, k) :: r, p, h => by
    simp only [ownOf] at h
    split at h
    · rename_i i hi
      rcases List.mem_cons.mp h with rfl | h
      · exact slotOf_get hi
      · exact ownOf_ix h
    · rename_i i hi
      rcases List.mem_cons.mp h with rfl | h
      · exact slotOf_get hi
      · exact ownOf_ix h
    · exact ownOf_ix h
theorem mapO_cons {α β : Type} {f : α → Option β} {a : α} {as : List α} {bs : List β} (h : mapO f (a :: as) = some bs) : ∃ b r, f a = some b ∧ mapO f as = some r ∧ bs = b :: r := by
  simp only [mapO] at h
  obtain ⟨b, hb, h⟩ := Option.bind_eq_some_iff.mp h
  obtain ⟨r, hr, h⟩ := Option.bind_eq_some_iff.mp h
  cases h
  exact ⟨b, r, hb, hr, rfl⟩
end

/-- the meaning up to n is right -/
structure Snd (cal : Nat → List D → CR) (cA : Nat → Addr) (n : Nat) : Prop where
  e : ∀ X W Γ ex f, Cok cal cA X W Γ → semE cal n Γ ex = some f → SE X cA W ex f
  b : ∀ X W Γ x p args f pos, Cok cal cA X W Γ → glB Γ.sc x = true → Γ.gl.lookup x = none → args.all noStar = true → semB cal n Γ x args = some f → SE X cA W (.Call (.Name x p) args [] pos) f
  x : ∀ X W Γ es fs, Cok cal cA X W Γ → semX cal n Γ es = some fs → SA X cA W es (argsX fs)
  o : ∀ X W Γ ex f, Cok cal cA X W Γ → semO cal n Γ ex = some f → PO X ex (tP X cA W (partE f))
  t : ∀ X W Γ ex f, Cok cal cA X W Γ → semT cal n Γ ex = some f → ST X cA W ex f
  w : ∀ X W Γ o es p f, Cok cal cA X W Γ → semW cal n Γ o es p = some f → SW X cA W (.BoolOp o es p) f
  i : ∀ X W Γ tg ex f, Cok cal cA X W Γ → semI cal n Γ tg ex = some f → SI X cA W tg ex f
  l : ∀ X W Γ elt tg iter ifs scope f, Cok cal cA X W Γ → semLc cal n Γ elt tg iter ifs scope = some f → ∃ (own : List (Str × Nat)) (gi : Sl → R (List D)) (tt : D → Sl → Option Sl) (is : List Nat) (tc : Sl → R Bool) (fe : Sl → R EV),
    (f = lcE gi tt (own.map (·.2)) tc fe ∨ ∃ (i : Nat) (x : Str) (p : Pos), iter = .Name x p ∧ SE X cA W (.Name x p) (nameE i) ∧ f = lcO i tt (own.map (·.2)) tc fe) ∧ SI X cA W tg iter gi ∧ BkOk X cA W scope tg ifs elt own tt is tc fe ∧ notSet iter = true
section
variable {cal : Nat → List D → CR} {cA : Nat → Addr}
theorem Snd.args {n : Nat} (S : Snd cal cA n) {X : Cx} {W : Gx} {Γ : Cfg} (C : Cok cal cA X W Γ) : ∀ {es : List Expr} {fs : List (Sl → R EV)}, mapO (semE cal n Γ) es = some fs → es.all noStar = true → SA X cA W es (argsE fs)
  | [], fs, h, _ => by cases h; exact sa_nil
  | e :: es, fs, h, hs => by
    obtain ⟨f, r, h1, h2, rfl⟩ := mapO_cons h
    rw [List.all_cons, Bool.and_eq_true] at hs
    exact sa_cons (S.e X W Γ e f C h1) (S.args C h2 hs.2) hs.1
def gTs : List Nat → TGs
  | [] => gNil
  | i :: is => gCons (gName i) (gTs is)
theorem NmOk.pg1 {X : Cx} {W : Gx} (hN : X.N.Nodup) {es : List Expr} {is : List Nat} (h : NmOk X W es is) : PGs X es (gTs is) := by
  induction h with
  | nil => exact pgs_nil
  | cons hi hx hf hp h ih => exact pgs_cons (pg_name hN hi hx hf) ih rfl
theorem putK {K : PySem.W.Frag} {F P H : Hp} {pn : Nat → Option V} {fp : Nat → List Addr} {s : Sl} {σ : L2.St} {d : D} {v : V} {i : Nat} (r : Rl K cA F P pn fp s σ H) (hi : i < s.length) (q : RepF K cA F d v) (ho : d.own = false) (hp : pn i = none) : Rl K cA F P pn (fset fp i []) (s.set i (some d)) (σ.set i (some v)) H :=
  r.put hi (Vl.frozen ho q) List.nodup_nil (fun j a z => nomatch z) (fun a z => nomatch z) (fun u z => by rw [hp] at z; cases z)
theorem gTs_ok {K : PySem.W.Frag} {F P H : Hp} {pn : Nat → Option V} : ∀ {is : List Nat} {fp : Nat → List Addr} {s s' : Sl} {σ : L2.St} {ds : List D} {vs : List V} {Q : L2.St → Hp → Prop}, (∀ i ∈ is, pn i = none) → Rl K cA F P pn fp s σ H → RepFs K cA F ds vs → (∀ d ∈ ds, d.own = false) → tgNs is ds s = some s' →
    (∀ σ' fp', Rl K cA F P pn fp' s' σ' H → (∀ vs, (∀ i ∈ is, i ∈ vs) → wipe σ' vs = wipe σ vs) → Q σ' H) → gTs is vs σ H Q
  | [], fp, s, s', σ, ds, vs, Q, hp, r, q, ho, e, hQ => by
    cases ds with
    | nil =>
      cases e
      cases (show vs = [] from q)
      exact ⟨rfl, hQ σ fp r fun _ _ => rfl⟩
    | cons d ds => cases e
  | i :: is, fp, s, s', σ, ds, vs, Q, hp, r, q, ho, e, hQ => by
    cases ds with
    | nil => cases e
    | cons d ds =>
      obtain ⟨v, vr, rfl, q1, q2⟩ := q
      obtain ⟨s1, e1, e2⟩ := Option.bind_eq_some_iff.mp e
      unfold tgN at e1
      split at e1
      · rename_i hb
        cases e1
        exact ⟨v, vr, rfl, gTs_ok (fun j hj => hp j (List.mem_cons_of_mem _ hj)) (putK r (Nat.blt_eq.mp hb) q1 (ho d (by simp)) (hp i (by simp))) q2 (fun d' hd => ho d' (List.mem_cons_of_mem _ hd)) e2 fun σ' fp' r' hw => hQ σ' fp' r' fun vs h => (hw vs fun i hi => h i (List.mem_cons_of_mem _ hi)).trans (wipe_set (h _ (by simp)))⟩
      · cases e1
theorem tgNs_len : ∀ {is : List Nat} {ds : List D} {s s' : Sl}, tgNs is ds s = some s' → ds.length = is.length
  | [], [], _, _, _ => rfl
  | [], _ :: _, _, _, e => by cases e
  | i :: is, [], _, _, e => by cases e
  | i :: is, d :: ds, s, s', e => by
    obtain ⟨s1, _, e2⟩ := Option.bind_eq_some_iff.mp e
    rw [List.length_cons, List.length_cons, tgNs_len e2]
theorem Cok.free (C : Cok cal cA X W Γ) {x : Str} {i : Nat} (h : slotL Γ x = some i) : W.pn i = none := (C.loc h).2.2.2
theorem slotL_free {Γ : Cfg} {x : Str} {i : Nat} (h : slotL Γ x = some i) : Γ.pz[i]? ≠ some true := by
  unfold slotL at h
  split at h
  · obtain ⟨j, hj, h⟩ := Option.bind_eq_some_iff.mp h
    split at h
    · cases h
    · rename_i hne
      cases h
      exact hne
  · cases h
theorem nmSlots_free {Γ : Cfg} : ∀ {es : List Expr} {is : List Nat}, nmSlots Γ es = some is → ∀ i ∈ is, Γ.pz[i]? ≠ some true
  | [], is, h => by cases h; intro i h; cases h
  | e :: es, is, h => by
    cases e <;> simp only [nmSlots, reduceCtorEq] at h
    obtain ⟨i, hi, h⟩ := Option.bind_eq_some_iff.mp h
    obtain ⟨is', his, h⟩ := Option.bind_eq_some_iff.mp h
    cases h
    intro j hj
    rcases List.mem_cons.mp hj with rfl | hj
    · exact slotL_free hi
    · exact nmSlots_free his j hj
theorem nmSlots_len {Γ : Cfg} : ∀ {es : List Expr} {is : List Nat}, nmSlots Γ es = some is → es.length = is.length
  | [], is, h => by cases h; rfl
  | e :: es, is, h => by
    cases e <;> simp only [nmSlots, reduceCtorEq] at h
    obtain ⟨i, hi, h⟩ := Option.bind_eq_some_iff.mp h
    obtain ⟨is', his, h⟩ := Option.bind_eq_some_iff.mp h
    cases h
    rw [List.length_cons, List.length_cons, nmSlots_len his]
theorem tgb_of {X : Cx} {W : Gx} {Γ : Cfg} (C : Cok cal cA X W Γ) {scope : Scope} {tg : Expr} {t : (D → Sl → Option Sl) × List Nat} (h : semG { Γ with sc := relS scope Γ.sc, lp := false } tg = some t) :
    ∃ u, TgB X cA W tg t.1 t.2 u ∧ ∀ (s : Shared) (H : Hp) (A : Addr) (cl : List (Str × Addr)) (fp : List Addr), PG (X.blk s H scope (compEnvC scope cl A X.env) fp) tg u := by
  cases tg <;> simp only [semG, reduceCtorEq] at h
  · obtain ⟨i, hi, rfl⟩ := Option.map_eq_some_iff.mp h
    refine ⟨gName i, ⟨fun P F fp s s' σ H d v Q r q ho e hQ => ?_⟩, fun s H A cl fp => ?_⟩
    · have hp : W.pn i = none := C.pins _ (slotL_free (Γ := { Γ with sc := relS scope Γ.sc, lp := false }) hi)
      change tgN i d s = some s' at e
      unfold tgN at e
      split at e
      · rename_i hb
        cases e
        exact hQ _ _ (putK r (Nat.blt_eq.mp hb) q ho hp) fun vs h => wipe_set (h i (List.mem_singleton.mpr rfl))
      · cases e
    · have C' : Cok cal cA (X.blk s H scope (compEnvC scope cl A X.env) fp) (W.blk (fun _ => none)) { Γ with sc := relS scope Γ.sc, lp := false } := C.blk
      obtain ⟨h1, h2, h3, _⟩ := C'.loc hi
      exact pg_name (by show X.N.Nodup; rw [C.N]; exact C.nd) h1 h2 h3
  · rename_i es k p
    obtain ⟨is, his, rfl⟩ := Option.map_eq_some_iff.mp h
    refine ⟨gTup X.K es.length (gTs is), ⟨fun P F fp s s' σ H d v Q r q ho e hQ => ?_⟩, fun s H A cl fp => ?_⟩
    · have hp : ∀ i ∈ is, W.pn i = none := fun i hi => C.pins _ (nmSlots_free (Γ := { Γ with sc := relS scope Γ.sc, lp := false }) his i hi)
      change tgT' is d s = some s' at e
      unfold tgT' at e
      split at e
      · rename_i hf
        cases d <;> simp only [tgT, reduceCtorEq] at e
        rename_i xs
        obtain ⟨a, vs, rfl, m, n⟩ := q
        refine ⟨a, vs, rfl, SqT_mono m r.fz, ?_, gTs_ok hp r n (fun d hd => ?_) e hQ⟩
        · rw [← n.length, tgNs_len e, ← nmSlots_len his]
        · have := List.all_eq_true.mp hf d hd
          simpa using this
      · cases e
    · have C' : Cok cal cA (X.blk s H scope (compEnvC scope cl A X.env) fp) (W.blk (fun _ => none)) { Γ with sc := relS scope Γ.sc, lp := false } := C.blk
      have hn := C'.names his
      have z := hn.star (env := (X.blk s H scope (compEnvC scope cl A X.env) fp).env)
      exact pg_tup C.calm (hn.pg1 (by show X.N.Nodup; rw [C.N]; exact C.nd)) z.2 z.1
end
end NS
namespace NS
open PySem PySem.Spec PyProof.Rows L2
variable {cal : Nat → List D → CR} {cA : Nat → Addr} {n : Nat}
theorem map1 {α β : Type} {o : Option α} {k : α → β} {b : β} (h : o.map k = some b) : ∃ a, o = some a ∧ b = k a := by
  obtain ⟨a, h1, h2⟩ := Option.map_eq_some_iff.mp h
  exact ⟨a, h1, h2.symm⟩
theorem bind1 {α β : Type} {o : Option α} {k : α → Option β} {b : β} (h : o.bind k = some b) : ∃ a, o = some a ∧ k a = some b := Option.bind_eq_some_iff.mp h
theorem ite1 {α : Type} {c : Bool} {x : Option α} {b : α} (h : (if c = true then x else none) = some b) : c = true ∧ x = some b := by
  split at h
  · exact ⟨‹_›, h⟩
  · cases h
theorem and1 {a b : Bool} (h : (a && b) = true) : a = true ∧ b = true := by rw [Bool.and_eq_true] at h; exact h
theorem mapO_ne {α β : Type} {f : α → Option β} {a : α} {as : List α} {bs : List β} (h : mapO f (a :: as) = some bs) : bs ≠ [] := by
  obtain ⟨b, r, _, _, rfl⟩ := mapO_cons h
  exact List.cons_ne_nil _ _
theorem snd_e (S : Snd cal cA n) {X : Cx} {W : Gx} {Γ : Cfg} {ex : Expr} {f : Sl → R EV} (C : Cok cal cA X W Γ) (h : semE cal (n + 1) Γ ex = some f) : SE X cA W ex f := by
  have un := C.un
  unfold semE at h
  split at h
  all_goals first | (cases h; done) | (rename_i heq; cases heq) | (rename_i heq _ _ _ _; cases heq)
  · -- name
    split at h
    · obtain ⟨i, hi, rfl⟩ := map1 h
      exact C.name hi
    · obtain ⟨hc, h⟩ := ite1 h
      obtain ⟨h1, h2⟩ := and1 hc
      split at h
      · rename_i d hd
        cases h
        obtain ⟨v, u, hm, rv, ho, q⟩ := C.glo _ d hd
        exact se_const (pe_glob (C.gl_ h1) hm rv (okName_of h2).1) ho fun F => RepF.mono (fun a o z => by cases z) _ _ q
      · cases h
  · cases h; exact se_int
  · cases h; exact se_bl
  · cases h; exact se_non
  · cases h; exact se_str
  · split at h
    · rename_i hc
      obtain ⟨fs, hf, rfl⟩ := map1 h
      exact se_tup (sv_of (S.args C hf hc))
    · obtain ⟨fs, hf, rfl⟩ := map1 h
      exact se_tup (sv_ofX (S.x _ _ _ _ _ C hf))
  · split at h
    · rename_i hc
      obtain ⟨fs, hf, rfl⟩ := map1 h
      exact se_lst (sv_of (S.args C hf hc))
    · obtain ⟨fs, hf, rfl⟩ := map1 h
      exact se_lst (sv_ofX (S.x _ _ _ _ _ C hf))
  · obtain ⟨f1, h1, h⟩ := bind1 h
    obtain ⟨f2, h2, h⟩ := bind1 h
    cases h
    exact se_bin (S.e _ _ _ _ _ C h1) (S.e _ _ _ _ _ C h2)
  · obtain ⟨f1, h1, h⟩ := bind1 h
    cases h
    exact se_neg (S.e _ _ _ _ _ C h1)
  · obtain ⟨f1, h1, h⟩ := bind1 h
    cases h
    exact se_not (S.e _ _ _ _ _ C h1)
  · exact pe_one (S.e _ _ _ _ _ C h)
  · obtain ⟨f1, h1, h⟩ := bind1 h
    obtain ⟨f2, h2, h⟩ := bind1 h
    cases h
    exact se_and (S.e _ _ _ _ _ C h1) (S.e _ _ _ _ _ C h2)
  · obtain ⟨f1, h1, h⟩ := bind1 h
    obtain ⟨f2, h2, h⟩ := bind1 h
    cases h
    exact se_or (S.e _ _ _ _ _ C h1) (S.e _ _ _ _ _ C h2)
  · obtain ⟨hc, h⟩ := ite1 h
    obtain ⟨f1, h1, h⟩ := bind1 h
    obtain ⟨f2, h2, h⟩ := bind1 h
    cases h
    exact se_cmp un (S.e _ _ _ _ _ C h1) (S.e _ _ _ _ _ C h2) hc
  · obtain ⟨hc, h⟩ := ite1 h
    obtain ⟨f1, h1, h⟩ := bind1 h
    obtain ⟨f2, h2, h⟩ := bind1 h
    obtain ⟨f3, h3, h⟩ := bind1 h
    cases h
    exact se_chain un (S.e _ _ _ _ _ C h1) (S.e _ _ _ _ _ C h2) (S.e _ _ _ _ _ C h3) hc
  · obtain ⟨f1, h1, h⟩ := bind1 h
    obtain ⟨f2, h2, h⟩ := bind1 h
    obtain ⟨f3, h3, h⟩ := bind1 h
    cases h
    exact se_if (S.t _ _ _ _ _ C h1) (S.e _ _ _ _ _ C h2) (S.e _ _ _ _ _ C h3)
  · obtain ⟨f1, h1, h⟩ := bind1 h
    obtain ⟨f2, h2, h⟩ := bind1 h
    obtain ⟨f3, h3, h⟩ := bind1 h
    cases h
    exact se_sl (S.e _ _ _ _ _ C h1) (S.o _ _ _ _ _ C h2) (S.o _ _ _ _ _ C h3)
  · obtain ⟨hc, h⟩ := ite1 h
    obtain ⟨f1, h1, h⟩ := bind1 h
    obtain ⟨f2, h2, h⟩ := bind1 h
    cases h
    exact se_ix (S.e _ _ _ _ _ C h1) (S.e _ _ _ _ _ C h2) hc
  · obtain ⟨own, gi, tt, is, tc, fe, hf, hi, hb, hs⟩ := S.l _ _ _ _ _ _ _ _ _ C h
    rcases hf with rfl | ⟨i, x, p, rfl, hx, rfl⟩
    · exact se_lc C.calm (by rw [C.N]; exact C.nd) hi hb hs
    · exact se_lcO C.calm (by rw [C.N]; exact C.nd) hx hb
  · -- calls
    rename_i x p args pos
    obtain ⟨hc, h⟩ := ite1 h
    obtain ⟨hc, hs⟩ := and1 hc
    obtain ⟨hg, hok⟩ := and1 hc
    split at h
    · rename_i i hl
      split at h
      · rename_i a as pins hpi _
        obtain ⟨fs, hf, rfl⟩ := map1 h
        obtain ⟨k, fa, fd, ps, Fk, hr, hm, hk, hb⟩ := C.fns _ _ _ hl hpi
        exact se_call Fk hr (C.gl_ hg) hm hk hb C.tk (S.args C hf hs) (okName_of hok).1 hs
      · cases h
    · cases h
    · rename_i hl
      split at h
      · rename_i a y py _
        split at h
        · rename_i hx
          split at h
          · rename_i t ht
            obtain ⟨hy, h⟩ := ite1 h
            obtain ⟨f1, h1, rfl⟩ := map1 h
            cases (beq_iff_eq.mp hx)
            have e1 : y = (t.s : Str) := by
              unfold TN.of at ht
              have z := List.find?_some ht
              exact (beq_iff_eq.mp z).symm
            subst e1
            have g1 := C.isGl (x := "isinstance") (by
              unfold NS.isGl
              rw [hg, hl]
              rfl) (by decide)
            have g2 := C.isGl hy (by cases t <;> decide)
            exact se_isi g1.1 g1.2 g2.1 g2.2 (S.e _ _ _ _ _ C h1) (and1 hs).1
          · cases h
        · exact S.b _ _ _ _ _ _ _ _ C hg hl hs h
      · exact S.b _ _ _ _ _ _ _ _ C hg hl hs h
  · -- methods
    rename_i x px m apos args cpos
    obtain ⟨hline, h⟩ := ite1 h
    obtain ⟨i, hi, h⟩ := bind1 h
    split at h
    · obtain ⟨hm, h⟩ := ite1 h
      cases h
      cases (beq_iff_eq.mp hm)
      exact se_pop (C.name hi) hline
    · obtain ⟨hs, h⟩ := ite1 h
      obtain ⟨f1, h1, h⟩ := bind1 h
      split at h
      · rename_i hm
        cases h
        cases (beq_iff_eq.mp hm)
        exact se_app (C.name hi) (S.e _ _ _ _ _ C h1) hs hline
      · obtain ⟨hm, h⟩ := ite1 h
        cases h
        cases (beq_iff_eq.mp hm)
        exact se_ext (C.name hi) (S.e _ _ _ _ _ C h1) hs hline
    · cases h
theorem snd_b (S : Snd cal cA n) {X : Cx} {W : Gx} {Γ : Cfg} {x : Str} {p pos : Pos} {args : List Expr} {f : Sl → R EV} (C : Cok cal cA X W Γ) (hg : glB Γ.sc x = true) (hl : Γ.gl.lookup x = none) (hs : args.all noStar = true) (h : semB cal (n + 1) Γ x args = some f) : SE X cA W (.Call (.Name x p) args [] pos) f := by
  unfold semB at h
  split at h
  · rename_i a as b hb
    obtain ⟨fs, hf, rfl⟩ := map1 h
    have e := BI.of_name hb
    subst e
    exact se_bi C.calm (C.gl_ hg) (C.blt _ hl (by cases b <;> decide)) (S.args C hf hs) hs
  · cases h
theorem snd_x (S : Snd cal cA n) {X : Cx} {W : Gx} {Γ : Cfg} {es : List Expr} {fs : List (Bool × (Sl → R EV))} (C : Cok cal cA X W Γ) (h : semX cal (n + 1) Γ es = some fs) : SA X cA W es (argsX fs) := by
  unfold semX at h
  split at h
  all_goals first | (cases h; done) | (have hq := ‹n + 1 = Nat.succ _›; cases hq)
  · cases h; exact sa_nilX
  · obtain ⟨f1, h1, h⟩ := bind1 h
    obtain ⟨f2, h2, h⟩ := bind1 h
    cases h
    exact sa_star (S.e _ _ _ _ _ C h1) (S.x _ _ _ _ _ C h2)
  · obtain ⟨hc, h⟩ := ite1 h
    obtain ⟨f1, h1, h⟩ := bind1 h
    obtain ⟨f2, h2, h⟩ := bind1 h
    cases h
    exact sa_plain (S.e _ _ _ _ _ C h1) (S.x _ _ _ _ _ C h2) hc
theorem snd_o (S : Snd cal cA n) {X : Cx} {W : Gx} {Γ : Cfg} {ex : Option Expr} {f : Option (Sl → R EV)} (C : Cok cal cA X W Γ) (h : semO cal (n + 1) Γ ex = some f) : PO X ex (tP X cA W (partE f)) := by
  unfold semO at h
  split at h
  all_goals first | (cases h; done) | (have hq := ‹n + 1 = Nat.succ _›; cases hq)
  · cases h; exact sp_none
  · obtain ⟨f1, h1, rfl⟩ := map1 h
    exact sp_some (S.e _ _ _ _ _ C h1)
theorem snd_t (S : Snd cal cA n) {X : Cx} {W : Gx} {Γ : Cfg} {ex : Expr} {f : Sl → R Bool} (C : Cok cal cA X W Γ) (h : semT cal (n + 1) Γ ex = some f) : ST X cA W ex f := by
  have un := C.un
  unfold semT at h
  split at h
  all_goals first | (cases h; done) | (have hq := ‹n + 1 = Nat.succ _›; cases hq)
  · obtain ⟨f1, h1, rfl⟩ := map1 h
    exact st_not (S.t _ _ _ _ _ C h1)
  · exact (S.w _ _ _ _ _ _ _ C h).pt
  · obtain ⟨hc, h⟩ := ite1 h
    obtain ⟨f1, h1, h⟩ := bind1 h
    obtain ⟨f2, h2, h⟩ := bind1 h
    cases h
    exact st_cmp un (S.e _ _ _ _ _ C h1) (S.e _ _ _ _ _ C h2) hc
  · obtain ⟨hc, h⟩ := ite1 h
    obtain ⟨f1, h1, h⟩ := bind1 h
    obtain ⟨f2, h2, h⟩ := bind1 h
    obtain ⟨f3, h3, h⟩ := bind1 h
    cases h
    exact st_chain un (S.e _ _ _ _ _ C h1) (S.e _ _ _ _ _ C h2) (S.e _ _ _ _ _ C h3) hc
  · obtain ⟨hc, h⟩ := ite1 h
    obtain ⟨f1, h1, rfl⟩ := map1 h
    exact st_val (S.e _ _ _ _ _ C h1) hc
theorem pw_one1 {X : Cx} {o : BoolOp} {a : Expr} {p : Pos} {t : TT} (h : PT X a t) : PW X (.BoolOp o [a] p) t := by
  cases o
  · exact pw_and1 h
  · exact pw_or1 h
theorem snd_w (S : Snd cal cA n) {X : Cx} {W : Gx} {Γ : Cfg} {o : BoolOp} {es : List Expr} {p : Pos} {f : Sl → R Bool} (C : Cok cal cA X W Γ) (h : semW cal (n + 1) Γ o es p = some f) : SW X cA W (.BoolOp o es p) f := by
  unfold semW at h
  split at h
  all_goals first | (cases h; done) | (have hq := ‹n + 1 = Nat.succ _›; cases hq)
  · exact pw_one1 (S.t _ _ _ _ _ C h)
  · obtain ⟨f1, h1, h⟩ := bind1 h
    obtain ⟨f2, h2, h⟩ := bind1 h
    cases h
    exact sw_and (S.t _ _ _ _ _ C h1) (S.w _ _ _ _ _ _ _ C h2)
  · obtain ⟨f1, h1, h⟩ := bind1 h
    obtain ⟨f2, h2, h⟩ := bind1 h
    cases h
    exact sw_or (S.t _ _ _ _ _ C h1) (S.w _ _ _ _ _ _ _ C h2)
theorem rest_i (S : Snd cal cA n) {X : Cx} {W : Gx} {Γ : Cfg} {tg ex : Expr} {f : Sl → R (List D)} (C : Cok cal cA X W Γ) (h : (semE cal n Γ ex).map (fun f => plI (seqI f)) = some f) : SI X cA W tg ex f := by
  obtain ⟨f1, h1, rfl⟩ := map1 h
  exact si_seq (S.e _ _ _ _ _ C h1)
theorem snd_i (S : Snd cal cA n) {X : Cx} {W : Gx} {Γ : Cfg} {tg ex : Expr} {f : Sl → R (List D)} (C : Cok cal cA X W Γ) (h : semI cal (n + 1) Γ tg ex = some f) : SI X cA W tg ex f := by
  unfold semI at h
  split at h
  all_goals first | (cases h; done) | (have hq := ‹n + 1 = Nat.succ _›; cases hq)
  · rename_i x p args pos
    split at h
    · rename_i hc
      obtain ⟨hg, hs⟩ := and1 hc
      split at h
      · rename_i a
        have ha := (and1 hs).1
        split at h
        · rename_i hx
          cases (beq_iff_eq.mp hx)
          obtain ⟨f1, h1, rfl⟩ := map1 h
          have g := C.isGl hg (by decide)
          exact si_rng1 g.1 g.2 (S.e _ _ _ _ _ C h1) ha
        · split at h
          · rename_i hx
            cases (beq_iff_eq.mp hx)
            split at h
            · obtain ⟨f1, h1, rfl⟩ := map1 h
              have g := C.isGl hg (by decide)
              exact si_enum g.1 g.2 (S.e _ _ _ _ _ C h1) ha
            · cases h
          · exact rest_i S C h
      · rename_i a b
        have ha := (and1 hs).1
        have hb := (and1 (and1 hs).2).1
        split at h
        · rename_i hx
          cases (beq_iff_eq.mp hx)
          obtain ⟨f1, h1, h⟩ := bind1 h
          obtain ⟨f2, h2, rfl⟩ := map1 h
          have g := C.isGl hg (by decide)
          exact si_rng2 g.1 g.2 (S.e _ _ _ _ _ C h1) (S.e _ _ _ _ _ C h2) ha hb
        · split at h
          · rename_i hx
            cases (beq_iff_eq.mp hx)
            split at h
            · obtain ⟨f1, h1, h⟩ := bind1 h
              obtain ⟨f2, h2, rfl⟩ := map1 h
              have g := C.isGl hg (by decide)
              exact si_zip g.1 g.2 (S.e _ _ _ _ _ C h1) (S.e _ _ _ _ _ C h2) ha hb
            · cases h
          · exact rest_i S C h
      · cases h
    · exact rest_i S C h
  · obtain ⟨f1, h1, rfl⟩ := map1 h
    exact si_seq (S.e _ _ _ _ _ C h1)
theorem yes_ok {Y : Cx} {X : Cx} {W : Gx} (hK : Y.K = X.K) : PTs Y [] (tTB X cA W yesT) := by
  refine ⟨fun pins s σ H Q I h => pts_nil.run pins s σ H Q I ?_⟩
  obtain ⟨P, F, fp, s, r, p⟩ := h
  exact p H F fp (Same.refl F) r
theorem snd_l (S : Snd cal cA n) {X : Cx} {W : Gx} {Γ : Cfg} {elt tg iter : Expr} {ifs : List Expr} {scope : Scope} {f : Sl → R EV} (C : Cok cal cA X W Γ) (h : semLc cal (n + 1) Γ elt tg iter ifs scope = some f) :
    ∃ (own : List (Str × Nat)) (gi : Sl → R (List D)) (tt : D → Sl → Option Sl) (is : List Nat) (tc : Sl → R Bool) (fe : Sl → R EV),
    (f = lcE gi tt (own.map (·.2)) tc fe ∨ ∃ (i : Nat) (x : Str) (p : Pos), iter = .Name x p ∧ SE X cA W (.Name x p) (nameE i) ∧ f = lcO i tt (own.map (·.2)) tc fe) ∧ SI X cA W tg iter gi ∧ BkOk X cA W scope tg ifs elt own tt is tc fe ∧ notSet iter = true := by
  unfold semLc at h
  dsimp only at h
  obtain ⟨hc, h⟩ := ite1 h
  obtain ⟨hc, hfree⟩ := and1 hc
  obtain ⟨hblk, hset⟩ := and1 hc
  obtain ⟨gi, h1, h⟩ := bind1 h
  obtain ⟨t, h2, h⟩ := bind1 h
  obtain ⟨tc, h3, h⟩ := bind1 h
  obtain ⟨fe, h4, h⟩ := bind1 h
  obtain ⟨hsub, h⟩ := ite1 h
  cases h
  refine ⟨ownOf Γ.N scope.names, gi, t.1, t.2, tc, fe, ?_, S.i _ _ _ _ _ _ C h1, ?_, hset⟩
  · unfold walked
    split
    · rename_i i hw
      split at hw
      · exact .inr ⟨i, _, _, rfl, C.name hw, rfl⟩
      · cases hw
    · exact .inl rfl
  refine ⟨?_, ?_, ?_, ?_, ?_, ?_⟩
  · rw [C.N, C.sc]
    exact blkOk_by hblk
  · intro i hi
    obtain ⟨q, hq, rfl⟩ := List.mem_map.mp hi
    have z := List.all_eq_true.mp hfree q hq
    refine C.pins _ fun e => ?_
    unfold freeP at z
    rw [e] at z
    cases z
  · intro i hi
    have z := List.all_eq_true.mp hsub i hi
    simpa using z
  · exact tgb_of C h2
  · intro s H A cl fp
    have CB : ∀ P, Cok cal cA (X.blk s H scope (compEnvC scope cl A X.env) fp) (W.blk P) { Γ with sc := relS scope Γ.sc, lp := false } := fun P => C.blk
    split at h3
    · cases h3; exact yes_ok rfl
    · exact pts_one (ptB rfl fun P => S.t _ _ _ _ _ (CB P) h3)
    · cases h3
  · intro s H A cl fp
    exact peB rfl fun P => S.e _ _ _ _ _ C.blk h4
end NS
namespace NS
open PySem PySem.Spec PyProof.Rows L2
variable {cal : Nat → List D → CR} {cA : Nat → Addr} {n : Nat}
theorem snd_zero : Snd cal cA 0 := by
  refine ⟨?_, ?_, ?_, ?_, ?_, ?_, ?_, ?_⟩
  · intro X W Γ ex f C h; unfold semE at h; cases h
  · intro X W Γ x p args f pos C hg hl hs h; unfold semB at h; cases h
  · intro X W Γ es fs C h; unfold semX at h; cases h
  · intro X W Γ ex f C h; unfold semO at h; cases h
  · intro X W Γ ex f C h; unfold semT at h; cases h
  · intro X W Γ o es p f C h; unfold semW at h; cases h
  · intro X W Γ tg ex f C h; unfold semI at h; cases h
  · intro X W Γ elt tg iter ifs scope f C h; unfold semLc at h; cases h
theorem snd : ∀ n, Snd cal cA n
  | 0 => snd_zero
  | n + 1 => have S := snd n
    ⟨fun _ _ _ _ _ C h => snd_e S C h, fun _ _ _ _ _ _ _ _ C hg hl hs h => snd_b S C hg hl hs h, fun _ _ _ _ _ C h => snd_x S C h, fun _ _ _ _ _ C h => snd_o S C h, fun _ _ _ _ _ C h => snd_t S C h, fun _ _ _ _ _ _ _ C h => snd_w S C h, fun _ _ _ _ _ _ C h => snd_i S C h, fun _ _ _ _ _ _ _ _ _ C h => snd_l S C h⟩
structure SndS (cal : Nat → List D → CR) (cA : Nat → Addr) (n : Nat) : Prop where
  s : ∀ X W Γ st f, Cok cal cA X W Γ → semS cal n Γ st = some f → SS X cA W st f
  ss : ∀ X W Γ st f, Cok cal cA X W Γ → semSs cal n Γ st = some f → SSs X cA W st f
theorem snds_ss (S : SndS cal cA n) {X : Cx} {W : Gx} {Γ : Cfg} {st : List Stmt} {f : Sl → Fl} (C : Cok cal cA X W Γ) (h : semSs cal (n + 1) Γ st = some f) : SSs X cA W st f := by
  unfold semSs at h
  split at h
  all_goals first | (cases h; done) | (have hq := ‹n + 1 = Nat.succ _›; cases hq)
  · cases h; exact sss_nil
  · exact sss_one (S.s _ _ _ _ _ C h)
  · obtain ⟨f1, h1, h⟩ := bind1 h
    obtain ⟨f2, h2, h⟩ := bind1 h
    cases h
    exact sss_cons (S.s _ _ _ _ _ C h1) (S.ss _ _ _ _ _ C h2)
theorem sole {t e : Expr} {l : Nat} {env : Env} (h : notComp e = true) : swapsWithSole [t] e l env = pure false := swaps_no h
theorem nost {ts : List Expr} {k : Nat} {p : Pos} {e : Expr} {env : Env} (h : (match e with
      | .Tuple _ _ _ => false
      | _ => true) = true) : swappedStores [.Tuple ts k p] e env = pure none := by
  cases e <;> first | rfl | cases h
theorem ss_brk {X : Cx} {W : Gx} {pos : Pos} : SS X cA W (.Break pos) brkS := by
  refine PS_mono ps_break fun D σ H h => ?_
  obtain ⟨F, fp, s, r, p⟩ := h
  exact p σ H F fp (Same.refl F) r
theorem ss_cnt {X : Cx} {W : Gx} {pos : Pos} : SS X cA W (.Continue pos) cntS := by
  refine PS_mono ps_continue fun D σ H h => ?_
  obtain ⟨F, fp, s, r, p⟩ := h
  exact p σ H F fp (Same.refl F) r
theorem ss_doc {X : Cx} {W : Gx} {x : Str} {j : Nat} {p pos : Pos} : SS X cA W (.Expr (.Constant (.str x) j p) pos) nxS := by
  refine PS_mono ps_doc fun D σ H h => ?_
  obtain ⟨F, fp, s, r, p⟩ := h
  exact p σ H F fp (Same.refl F) r
theorem swB_ok {elt : Expr} {scope : Scope} {pos py : Pos} {y : Str} {sl : Nat} {sc : Scope} (h : swB elt scope pos y py sl sc = true) : sc.names.lookup y = some NameKind.local ∧ sc.kind = .function ∧ (py.line == pos.line) = true ∧ (scope.names.any fun (n, k) => n == y && (k == .local || k == .cell)) = false := by
  unfold swB at h
  obtain ⟨h, ha⟩ := and1 h
  obtain ⟨h, hl⟩ := and1 h
  obtain ⟨h, hk⟩ := and1 h
  refine ⟨?_, ?_, hl, by simpa using ha⟩
  · split at h
    · rename_i e; exact e
    · cases h
  · split at hk
    · rename_i e; exact e
    · cases hk
theorem cellB_ok {sc : Scope} {x : Str} (h : cellB sc x = true) : sc.names.lookup x = some NameKind.cell := by
  unfold cellB at h
  split at h
  · rename_i e; exact e
  · cases h
theorem sw_cell {elt : Expr} {gs : List Comprehension} {scope : Scope} {pos py : Pos} {y : Str} {l : Nat} {env : Env} (h : env.scope.names.lookup y = some NameKind.cell) : swapsWith (.ListComp elt gs scope pos) (some (.Name y py)) l env = pure false := by
  have k : env.kindOf y = some .cell := h
  unfold swapsWith
  simp only [k]
  show pure ((env.blockKind == ScopeKind.function) && (some NameKind.cell == some NameKind.local) && _ && _) = _
  rw [show (some NameKind.cell == some NameKind.local) = false from rfl, Bool.and_false, Bool.false_and, Bool.false_and]
theorem sub_plain {x : Str} {p1 p2 : Pos} {b : Expr} {env : Env} (h : notSlice b = true) (v : Value) : assign (.Subscript (.Name x p1) b p2) env v = (do
      let ov ← holding [v] (eval (.Name x p1) env)
      let iv ← holding [v, ov] (eval b env)
      standAt p2
      holding [v, ov, iv] (setItem ov iv v)
      release [v, ov, iv] []) := by
  cases b <;> first | rfl | cases h
theorem snds_s (S : SndS cal cA n) {X : Cx} {W : Gx} {Γ : Cfg} {st : Stmt} {f : Sl → Fl} (C : Cok cal cA X W Γ) (h : semS cal (n + 1) Γ st = some f) : SS X cA W st f := by
  have E := snd (cal := cal) (cA := cA) n
  have hN : X.N.Nodup := by rw [C.N]; exact C.nd
  unfold semS at h
  split at h
  all_goals first | (cases h; done) | (have hq := ‹n + 1 = Nat.succ _›; cases hq)
  · cases h; exact ss_pass
  · cases h; exact ss_brk
  · cases h; exact ss_cnt
  · cases h; exact ss_doc
  · cases h; exact ss_retN
  · obtain ⟨f1, h1, rfl⟩ := map1 h
    exact ss_ret (E.e _ _ _ _ _ C h1)
  · obtain ⟨hc, h⟩ := ite1 h
    obtain ⟨f1, h1, rfl⟩ := map1 h
    exact ss_expr (E.e _ _ _ _ _ C h1) hc
  · obtain ⟨f1, h1, h⟩ := bind1 h
    obtain ⟨f2, h2, h⟩ := bind1 h
    obtain ⟨f3, h3, h⟩ := bind1 h
    cases h
    exact ss_if (E.t _ _ _ _ _ C h1) (S.ss _ _ _ _ _ C h2) (S.ss _ _ _ _ _ C h3)
  · -- name = e
    obtain ⟨i, hi, h⟩ := bind1 h
    obtain ⟨g1, g2, g3, g4⟩ := C.loc hi
    split at h
    · split at h
      · rename_i hc
        obtain ⟨hc, hlp⟩ := and1 hc
        obtain ⟨f1, h1, rfl⟩ := map1 h
        obtain ⟨own, gi, tt, is, tc, fe, hf, hit, hb, hs⟩ := E.l _ _ _ _ _ _ _ _ _ C h1
        obtain ⟨e1, e2, hl, ha⟩ := swB_ok hc
        rw [← C.sc] at e1 e2
        rcases hf with rfl | ⟨j, x, p, rfl, hx, rfl⟩
        · exact ss_setLc C.calm hN g1 e1 g4 (sw_true e2 e1 hl ha) hit hb hs
        · exact ss_setLcO C.calm hN g1 e1 g4 (sw_true e2 e1 hl ha) hx hb
      · obtain ⟨hc, h⟩ := ite1 h
        obtain ⟨f1, h1, rfl⟩ := map1 h
        obtain ⟨own, gi, tt, is, tc, fe, hf, hit, hb, hs⟩ := E.l _ _ _ _ _ _ _ _ _ C h1
        have hk := cellB_ok hc
        rw [← C.sc] at hk
        rcases hf with rfl | ⟨j, x, p, rfl, hx, rfl⟩
        · exact ss_set hN g1 g2 g3 g4 (se_lc C.calm hN hit hb hs) (sw_cell hk)
        · exact ss_set hN g1 g2 g3 g4 (se_lcO C.calm hN hx hb) (sw_cell hk)
    · obtain ⟨hc, h⟩ := ite1 h
      obtain ⟨f1, h1, rfl⟩ := map1 h
      exact ss_set hN g1 g2 g3 g4 (E.e _ _ _ _ _ C h1) (swaps_no hc)
  · obtain ⟨hc, h⟩ := ite1 h
    obtain ⟨hc, ht⟩ := and1 hc
    obtain ⟨t, h1, h⟩ := bind1 h
    obtain ⟨f1, h2, rfl⟩ := map1 h
    exact ss_asg (C.tgt h1) (E.e _ _ _ _ _ C h2) (sole hc) (nost ht) rfl
  · obtain ⟨hc, h⟩ := ite1 h
    obtain ⟨hc, hsl⟩ := and1 hc
    obtain ⟨i, hi, h⟩ := bind1 h
    obtain ⟨f1, h1, h⟩ := bind1 h
    obtain ⟨f2, h2, rfl⟩ := map1 h
    exact ss_sto (C.name hi) (E.e _ _ _ _ _ C h1) (E.e _ _ _ _ _ C h2) hc (sub_plain hsl)
  · obtain ⟨hc, h⟩ := ite1 h
    obtain ⟨hlp, hs⟩ := and1 hc
    obtain ⟨f1, h1, h⟩ := bind1 h
    obtain ⟨t, h2, h⟩ := bind1 h
    obtain ⟨f3, h3, h⟩ := bind1 h
    cases h
    exact ss_for (C.lp hlp).1 C.calm (E.i _ _ _ _ _ _ C h1) (C.tgt h2) (S.ss _ _ _ _ _ C h3) hs
  · obtain ⟨hlp, h⟩ := ite1 h
    obtain ⟨f1, h1, h⟩ := bind1 h
    obtain ⟨f3, h3, h⟩ := bind1 h
    cases h
    exact ss_while (C.lp hlp).1 (E.t _ _ _ _ _ C h1) (S.ss _ _ _ _ _ C h3)
theorem snds_zero : SndS cal cA 0 := by
  refine ⟨?_, ?_⟩
  · intro X W Γ st f C h; unfold semS at h; cases h
  · intro X W Γ st f C h; unfold semSs at h; cases h
theorem snds : ∀ n, SndS cal cA n
  | 0 => snds_zero
  | n + 1 => have S := snds n
    ⟨fun _ _ _ _ _ C h => snds_s S C h, fun _ _ _ _ _ C h => snds_ss S C h⟩
end NS
namespace NS
open PySem PySem.Spec PyProof.Rows L2

/-! ## 15. a whole text -/
/-- a def: its name, its text, its slots, which parameters are never stored to -/
structure Df where
  nm : Str
  st : Stmt
  N : List Str
  pins : List Bool
def Df.ps (d : Df) : List Str := d.N.take d.pins.length
/-- a module's name for a value -/
inductive Cs where
  | int (i : Int)
  | str (x : Str)
  | tup (xs : List Cs)
mutual
def Cs.d : Cs → D
  | .int i => .int i
  | .str x => .str x
  | .tup xs => .tup (Cs.ds xs)
def Cs.ds : List Cs → List D
  | [] => []
  | c :: cs => c.d :: Cs.ds cs
end
mutual
/-- it stands there -/
def csB (K : PySem.W.Frag) : Cs → Value → Bool
  | .int i, .int j _ => decide (j = i)
  | .str x, .str y _ => decide (y = x)
  | .tup cs, .ref a => (match K.lookup a with
    | some ⟨.type c, _, .seq its _, _⟩ => decide (c = "tuple") && (decide (its.size ≤ sizeLine) && csBs K cs its.toList)
    | _ => false)
  | _, _ => false
def csBs (K : PySem.W.Frag) : List Cs → List Value → Bool
  | [], [] => true
  | c :: cs, u :: us => csB K c u && csBs K cs us
  | _, _ => false
end
def csOk (K : PySem.W.Frag) (p : Str × Cs) : Bool := match PySem.W.nsIn K mainGlobals p.1 with
  | some (some u) => csB K p.2 u
  | _ => false
mutual
theorem csB_ok {K : PySem.W.Frag} : ∀ (c : Cs) (u : Value), csB K c u = true → ∃ v, RelV v u ∧ ∀ (cA : Nat → Addr) F, RepF K cA F c.d v
  | .int i, u, h => by
    cases u with
    | int j t =>
      have h : decide (j = i) = true := h
      exact ⟨.int i, ⟨t, by rw [of_decide_eq_true h]⟩, fun _ _ => rfl⟩
    | _ => cases h
  | .str x, u, h => by
    cases u with
    | str y t =>
      have h : decide (y = x) = true := h
      exact ⟨.str x, ⟨t, by rw [of_decide_eq_true h]⟩, fun _ _ => rfl⟩
    | _ => cases h
  | .tup cs, u, h => by
    cases u with
    | ref a =>
      have h : (match K.lookup a with
        | some ⟨.type c, _, .seq its _, _⟩ => decide (c = "tuple") && (decide (its.size ≤ sizeLine) && csBs K cs its.toList)
        | _ => false) = true := h
      split at h
      · rename_i c od its n sl q
        rw [Bool.and_eq_true, Bool.and_eq_true] at h
        obtain ⟨vs, rv, hr⟩ := csBs_ok cs its.toList h.2.2
        exact ⟨.ref a, rfl, fun cA F => ⟨a, vs, rfl, .inr ⟨_, its, n, q, congrArg Value.type (of_decide_eq_true h.1), rfl, of_decide_eq_true h.2.1, rv⟩, hr cA F⟩⟩
      · cases h
    | _ => cases h
theorem csBs_ok {K : PySem.W.Frag} : ∀ (cs : List Cs) (us : List Value), csBs K cs us = true → ∃ vs, Vals vs us ∧ ∀ (cA : Nat → Addr) F, RepFs K cA F (Cs.ds cs) vs
  | [], us, h => by
    cases us with
    | nil => exact ⟨[], .nil, fun _ _ => rfl⟩
    | cons u us => cases h
  | c :: cs, us, h => by
    cases us with
    | nil => cases h
    | cons u us =>
      have h : (csB K c u && csBs K cs us) = true := h
      rw [Bool.and_eq_true] at h
      obtain ⟨v, r1, h1⟩ := csB_ok c u h.1
      obtain ⟨vs, r2, h2⟩ := csBs_ok cs us h.2
      exact ⟨v :: vs, .cons r1 r2, fun cA F => ⟨v, vs, rfl, h1 cA F, h2 cA F⟩⟩
end
structure Pg where
  defs : List Df
  cst : List (Str × Cs)
def fnGl : Nat → List Df → List (Str × GB)
  | _, [] => []
  | i, d :: ds => (d.nm, .fn i) :: fnGl (i + 1) ds
def csGl : List (Str × Cs) → List (Str × GB)
  | [] => []
  | (x, c) :: r => (x, .cst c.d) :: csGl r
def Pg.gl (T : Pg) : List (Str × GB) := fnGl 0 T.defs ++ csGl T.cst
def Pg.cf (T : Pg) (d : Df) : Cfg := ⟨d.N, defScope d.st, T.gl, T.defs.map (·.pins), d.pins, true⟩
def Pg.mn (T : Pg) (cal : Nat → List D → CR) (d : Df) : Sl → Fl := match semSs cal 60 (T.cf d) (defBody d.st) with
  | some f => f
  | none => fun _ => .no
/-- what def i answers, k calls deep -/
def Pg.cal (T : Pg) : Nat → Nat → List D → CR
  | 0, _, _ => .no
  | k + 1, i, ds => match T.defs[i]? with
    | some d => calOf (T.mn (T.cal k) d) d.N.length d.pins ds
    | none => .no
def Df.dd (d : Df) : He.DefD := ⟨(d.nm, none), d.nm, d.nm, defArgs d.st, defBody d.st, defScope d.st, [], []⟩
def Pg.fn (T : Pg) : List He.DefD := T.defs.map Df.dd
def Pg.fa (T : Pg) : List He.Fa := (T.defs.map fun d => .glo d.nm) ++ ((bltNames.filter fun x => (T.gl.lookup x).isNone).map .free)
/-- what the head looks at -/
def Pg.ext (T : Pg) (K : PySem.W.Frag) : Bool := T.cst.all (csOk K)
def Pg.hook (T : Pg) (n : Nat) : PySem.W.Hook where
  α := He.AlD × Bool
  obs := fun s => (He.obsD T.fa T.fn (He.frG s.heap.get? (He.asD s.heap.get? n)), T.ext (He.frG s.heap.get? (He.asD s.heap.get? n)))
  val := fun _ => (He.valD T.fn, true)
  says := fun _ h => ∃ K : PySem.W.Frag, K.In h ∧ He.SaysD T.fa T.fn K ∧ T.ext K = true
  of := fun _ _ e => ⟨_, He.frG_in, congrArg Prod.fst e, congrArg Prod.snd e⟩
  keeps := fun _ _ _ ⟨K, hK, c⟩ k => ⟨K, PySem.W.Frag.In.keeps hK k, c⟩
def Pg.look (T : Pg) (n : Nat) (g : Addr → Option Obj) : He.AlD × Bool := (He.obsD T.fa T.fn (He.frG g (He.asD g n)), T.ext (He.frG g (He.asD g n)))
theorem Pg.look_eq {T : Pg} {n : Nat} {g : Addr → Option Obj} {s : Shared} (h : ∀ a, g a = s.heap.get? a) : T.look n g = (T.hook n).obs s := by
  have e : g = s.heap.get? := funext h
  rw [e]
  rfl
structure DfOk (d : Df) : Prop where
  sc : FnScope d.N d.ps (defScope d.st)
  bd : ∀ (kV doc pm : Value) (an : Option Addr) (cdv ct : Value) (us : List Value), us.length = d.ps.length → bindArgs (PySem.W.fnOf d.nm d.nm (defArgs d.st) (defBody d.st) (defScope d.st) .none kV doc pm an cdv ct) ⟨us, []⟩ = pure (d.ps.zip us)
  len : d.ps.length = d.pins.length
section
variable {T : Pg} {P : Program} {w : World} {K : PySem.W.Frag} {mg : Str → Option Value} {base : Heap} {cA : Nat → Addr}
theorem fnGl_some : ∀ {ds : List Df} {j i : Nat} {x : Str}, (fnGl j ds).lookup x = some (.fn i) → ∃ d, j ≤ i ∧ ds[i - j]? = some d ∧ d.nm = x
  | [], j, i, x, h => by cases h
  | d :: ds, j, i, x, h => by
    unfold fnGl at h
    rw [List.lookup_cons] at h
    split at h
    · rename_i e
      cases h
      exact ⟨d, Nat.le_refl _, by rw [Nat.sub_self]; rfl, (beq_iff_eq.mp e).symm⟩
    · obtain ⟨d', h1, h2, h3⟩ := fnGl_some h
      refine ⟨d', Nat.le_of_succ_le h1, ?_, h3⟩
      rw [show i - j = (i - (j + 1)) + 1 by omega, List.getElem?_cons_succ]
      exact h2
theorem fnGl_cst : ∀ {ds : List Df} {j : Nat} {x : Str} {d : D}, (fnGl j ds).lookup x = some (.cst d) → False
  | [], j, x, d, h => by cases h
  | d :: ds, j, x, d', h => by
    unfold fnGl at h
    rw [List.lookup_cons] at h
    split at h
    · cases h
    · exact fnGl_cst h
theorem csGl_fn : ∀ {cs : List (Str × Cs)} {x : Str} {i : Nat}, (csGl cs).lookup x = some (.fn i) → False
  | [], x, i, h => by cases h
  | (y, c) :: r, x, i, h => by
    unfold csGl at h
    rw [List.lookup_cons] at h
    split at h
    · cases h
    · exact csGl_fn h
theorem csGl_some : ∀ {cs : List (Str × Cs)} {x : Str} {d : D}, (csGl cs).lookup x = some (.cst d) → ∃ c, (x, c) ∈ cs ∧ d = c.d
  | [], x, d, h => by cases h
  | (y, c) :: r, x, d, h => by
    unfold csGl at h
    rw [List.lookup_cons] at h
    split at h
    · rename_i e
      cases h
      cases beq_iff_eq.mp e
      exact ⟨c, by simp, rfl⟩
    · obtain ⟨c', h1, h2⟩ := csGl_some h
      exact ⟨c', List.mem_cons_of_mem _ h1, h2⟩
theorem lookup_app {α β : Type} [BEq α] : ∀ {l m : List (α × β)} {x : α}, (l ++ m).lookup x = (l.lookup x).or (m.lookup x)
  | [], m, x => rfl
  | (y, b) :: l, m, x => by
    rw [List.cons_append, List.lookup_cons, List.lookup_cons]
    split
    · rfl
    · exact lookup_app
theorem Pg.gl_fn {x : Str} {i : Nat} (h : T.gl.lookup x = some (.fn i)) : ∃ d, T.defs[i]? = some d ∧ d.nm = x := by
  unfold Pg.gl at h
  rw [lookup_app] at h
  cases e : (fnGl 0 T.defs).lookup x with
  | none => rw [e] at h; exact (csGl_fn (by simpa using h)).elim
  | some g =>
    rw [e] at h
    cases h
    obtain ⟨d, _, h2, h3⟩ := fnGl_some e
    exact ⟨d, h2, h3⟩
theorem Pg.gl_cst {x : Str} {d : D} (h : T.gl.lookup x = some (.cst d)) : ∃ c, (x, c) ∈ T.cst ∧ d = c.d := by
  unfold Pg.gl at h
  rw [lookup_app] at h
  cases e : (fnGl 0 T.defs).lookup x with
  | none => rw [e] at h; exact csGl_some (by simpa using h)
  | some g =>
    rw [e] at h
    cases h
    exact (fnGl_cst e).elim
/-- what is known of the module -/
structure PgOk (T : Pg) (K : PySem.W.Frag) (mg : Str → Option Value) : Prop where
  df : ∀ d ∈ T.defs, DfOk d
  fn : ∀ d ∈ T.defs, ∃ fd, FunD K d.nm d.nm (defArgs d.st) (defBody d.st) (defScope d.st) [] [] (He.ga K d.nm) fd
  nm : ∀ d ∈ T.defs, mg d.nm = some (.ref (He.ga K d.nm))
  cst : ∀ x c, (x, c) ∈ T.cst → ∃ v u, mg x = some u ∧ RelV v u ∧ ∀ (cA : Nat → Addr) F, RepF K cA F c.d v
  blt : ∀ x, T.gl.lookup x = none → x ∈ bltNames → mg x = none
theorem Pg.ok_of {h : Heap} (df : ∀ d ∈ T.defs, DfOk d) (X : K.In h) (G : h.Ns mainGlobals mg) (c : He.SaysD T.fa T.fn K) (ce : T.ext K = true) : PgOk T K mg := by
  have fact : ∀ f ∈ T.fa, f.ok K = true := fun f hf => by
    obtain ⟨i, hi⟩ := List.mem_iff_getElem?.mp hf
    exact c.fact i hi
  refine ⟨df, fun d hd => ?_, fun d hd => ?_, fun x cs hx => ?_, fun x hl hb => ?_⟩
  · obtain ⟨i, hi⟩ := List.mem_iff_getElem?.mp (List.mem_map_of_mem (f := Df.dd) hd)
    exact c.def_ i hi
  · exact He.glo_ok X G (fact _ (List.mem_append_left _ (List.mem_map_of_mem (f := fun d : Df => He.Fa.glo d.nm) hd)))
  · have z := List.all_eq_true.mp ce _ hx
    unfold csOk at z
    split at z
    · rename_i u hu
      obtain ⟨v, r, h⟩ := csB_ok cs u z
      exact ⟨v, u, PySem.W.mg_of X G hu, r, h⟩
    · cases z
  · refine He.free_ok X G (fact _ (List.mem_append_right _ (List.mem_map_of_mem (List.mem_filter.mpr ⟨hb, ?_⟩))))
    rw [hl]
    rfl
theorem sss_no {X : Cx} {W : Gx} {st : List Stmt} : SSs X cA W st (fun _ => .no) := ⟨fun _ _ _ _ _ _ h => by
  obtain ⟨F, fp, s, r, p⟩ := h
  exact p.elim⟩
/-- THE THEOREM: each def keeps what cal says -/
theorem Pg.ok (G : PgOk T K mg) : ∀ (k i : Nat) (d : Df) (fd : FuncData), T.defs[i]? = some d → FunD K d.nm d.nm (defArgs d.st) (defBody d.st) (defScope d.st) [] [] (He.ga K d.nm) fd →
    FnOk P w K mg base (L2.CX P w) k (He.ga K d.nm) fd d.ps (spF K cA (T.cal k i) d.pins)
  | 0, i, d, fd, hd, F => by
    refine ⟨fun vs H Q E h => ?_, fun A outer s H args us vs Q E hr e0 hb r h => ?_⟩
    · obtain ⟨_, _, _, _, _, _, p⟩ := h; exact p.elim
    · obtain ⟨_, _, _, _, _, _, p⟩ := h; exact p.elim
  | k + 1, i, d, fd, hd, F => by
    have hm : d ∈ T.defs := List.mem_of_getElem? hd
    obtain ⟨oc, od, dV, kV, doc, pm, an, cdv, ct, osl, rfl, lk, hcd, _, _⟩ := F.ex
    have D0 := G.df d hm
    have e : T.cal (k + 1) i = calOf (T.mn (T.cal k) d) d.N.length d.pins := by
      funext ds
      simp only [Pg.cal, hd]
    rw [e]
    refine fn_ok lk hcd D0.sc D0.len fun A outer s H E W hr tk hp => ?_
    unfold Pg.mn
    split
    · rename_i f hf
      refine (snds 60).ss _ W (T.cf d) _ f ?_ hf
      refine ⟨rfl, D0.sc.nd, rfl, rfl, fun x d' h => ?_, fun x j pins h1 h2 => ?_, fun x h hb => G.blt x h hb, tk, hp, fun _ => ⟨passes_of rfl, fun _ => rfl⟩, ?_⟩
      · obtain ⟨c, hc, rfl⟩ := Pg.gl_cst h
        obtain ⟨v, u, h1, h2, h3⟩ := G.cst x c hc
        exact ⟨v, u, h1, h2, by cases c <;> rfl, h3 cA _⟩
      · obtain ⟨d', hd', hx⟩ := Pg.gl_fn h1
        have hm' : d' ∈ T.defs := List.mem_of_getElem? hd'
        obtain ⟨fd', F'⟩ := G.fn d' hm'
        have e2 : pins = d'.pins := by
          have h2 : (T.defs.map (·.pins))[j]? = some pins := h2
          rw [List.getElem?_map, hd'] at h2
          exact (Option.some.inj h2).symm
        subst e2
        subst hx
        exact ⟨k, He.ga K d'.nm, fd', d'.ps, Pg.ok G k j d' fd' hd' F', hr, G.nm d' hm', F'.kp, F'.bindsN (G.df d' hm').bd⟩
      · have := hr.un
        exact (show (A.deeper (envOfC d.nm (defScope d.st) s.heap.objs.size (He.ga K d.nm) cdv)).units + 130 < cLine by omega)
    · exact sss_no
end
end NS
namespace NS
open PySem PySem.Spec PyProof.Rows L2
/-! ## 16. a law's end -/
section
variable {T : Pg} {K : PySem.W.Frag} {cA : Nat → Addr}
theorem law_sp {k i n : Nat} (h : ∀ ns : List Int, ns.length ≤ n → ∃ s, T.cal k i [.ro (ns.map .int)] = .ok (.bl true) [s]) (H : Hp) (a : Addr) (ns : List Int) (hl : ns.length ≤ n) (hS : SqL K H a (ns.map V.int)) :
    spF K cA (T.cal k i) [true] [.ref a] H (fun v _ => v = .bl true) (fun _ _ _ => False) := by
  obtain ⟨s, e⟩ := h ns hl
  refine ⟨H, fun _ => none, fun _ => [], [.ro (ns.map .int)], ⟨rfl, Same.refl H, (fun a o z => by cases z), fun j d hj => ?_, (fun _ _ => rfl), (fun _ => List.nodup_nil), (fun _ _ _ z _ => by cases z), (fun _ _ z => by cases z), fun j v hv => ?_, (fun a o z => by cases z)⟩, rfl, ?_⟩
  · cases j with
    | zero =>
      cases hj
      have q : ∀ l : List Int, RepFs K cA H (l.map .int) (l.map V.int) := fun l => by
        induction l with
        | nil => rfl
        | cons i l ih => exact ⟨.int i, _, rfl, rfl, ih⟩
      exact ⟨.ref a, rfl, ⟨a, _, rfl, hS, q ns⟩, rfl⟩
    | succ j => cases hj
  · obtain ⟨_, h2⟩ := pnOf_some hv
    rw [List.getElem?_map, h2]
    rfl
  · rw [e]
    refine ⟨rfl, fun v H' F' fp' _ _ q => ?_⟩
    obtain ⟨l, q1, _⟩ := q
    exact q1.1
theorem law_facts {P : Program} {w : World} {h : Heap} {mg : Str → Option Value} {f : Addr} {d : Df} {k i n : Nat} (df : ∀ d ∈ T.defs, DfOk d) (X : K.In h) (G : h.Ns mainGlobals mg) (c : He.SaysD T.fa T.fn K) (ce : T.ext K = true)
    (hd : T.defs[i]? = some d) (hp : d.pins = [true]) {x : Str} (hps : d.ps = [x]) (hmg : mg d.nm = some (.ref f)) (hlaw : ∀ ns : List Int, ns.length ≤ n → ∃ s, T.cal k i [.ro (ns.map .int)] = .ok (.bl true) [s]) :
    ∃ (fd : FuncData) (sp : Sp), (∀ (s : Shared) (v : Value), BindsTo s fd ⟨[v], []⟩ [(x, v)]) ∧ (∀ (H : Hp) (a : Addr) (ns : List Int), ns.length ≤ n → Only H → SqL K H a (ns.map V.int) → sp [.ref a] H (fun v _ => v = .bl true) fun _ _ _ => False) ∧
      ∀ base : Heap, K.In base → base.Ns mainGlobals mg → FnOk P w K mg base (L2.CX P w) k f fd [x] sp := by
  have PG : PgOk T K mg := Pg.ok_of df X G c ce
  have hm : d ∈ T.defs := List.mem_of_getElem? hd
  obtain ⟨fd, F⟩ := PG.fn d hm
  have e := hmg.symm.trans (PG.nm d hm)
  cases e
  refine ⟨fd, spF K (fun _ => 0) (T.cal k i) [true], fun s v => ?_, fun H a ns hl _ hS => law_sp hlaw H a ns hl hS, fun base _ _ => ?_⟩
  · have b := F.bindsA (ps := [x]) (fun kV doc pm an cdv ct us hl => by
      have := (df d hm).bd kV doc pm an cdv ct us (by rw [hps]; exact hl)
      rw [hps] at this
      exact this) s [v] rfl
    exact b
  · have z := Pg.ok (P := P) (w := w) (base := base) (cA := fun _ => 0) PG k i d fd hd F
    rw [hps, hp] at z
    exact z
end
/-- the law's call: nothing may come out but True -/
theorem law_walk {l : PySem.W.OpenLaw} {n k : Nat} {q : Program} {out : List Str} {XP : (Str → Option Value) → Heap → Prop} {YP : World → Heap → Prop} {d : DefRec} {x : Str} (hn : l.most = some n) (hz : n ≤ sizeLine) (hd : d.params.defaults = []) (hr : Room k callerA)
    (F : ∀ (w : World) (mg : Str → Option Value) (f : Addr) (h : Heap), YP w h → h.Ns mainGlobals mg → mg d.name = some (.ref f) → ∃ (K : PySem.W.Frag) (fd : FuncData) (sp : Sp), K.In h ∧ (∀ (s : Shared) (v : Value), BindsTo s fd ⟨[v], []⟩ [(x, v)]) ∧
      (∀ (H : Hp) (a : Addr) (ns : List Int), ns.length ≤ n → Only H → SqL K H a (ns.map V.int) → sp [.ref a] H (fun v _ => v = .bl true) fun _ _ _ => False) ∧
      ∀ base : Heap, K.In base → base.Ns mainGlobals mg → FnOk l.prog w K mg base (L2.CX l.prog w) k f fd [x] sp) : PySem.W.WalkO q out XP YP l.row.toRowW d [] (fun f vs => PySem.call f vs) := by
  refine Att.attach_call hn hd fun w s s1 mg mb f o pm cd doc a vs ns G Y ho h1 h2 hm hj hi hl hg => ?_
  obtain ⟨K, fd, sp, KX, b, hs, hF⟩ := F w mg f _ Y G.T.g hm
  refine law_call KX G.T.g G.T.b G.T.builtins G.T.nolimit hg hj hi (Nat.le_trans hl hz) hr hF b (fun H z hS => hs H a ns hl z hS) fun H e s' c => ?_
  obtain ⟨_, _, _, _, _, _, _, _, _, _, _, _, z⟩ := c
  exact z
end NS
namespace NS
open PySem PySem.Spec PyProof.Rows L2

/-! ## 17. reckoning with meanings: one step after another -/
section
variable {α β : Type} {r r' : R α} {k : α → Sl → R β} {kk : α → Sl → Fl} {a b : α} {s s1 s2 s3 : Sl} {x : Xn} {F F' : Fl} {G : Sl → Fl} {d d1 d2 : D} {ds xs : List D} {f g h : Sl → R EV} {c c' : Sl → R Bool} {P Q : Sl → Fl} {i j : Nat} {e e1 e2 : EV} {es : List EV} {fs : List (Sl → R EV)} {o o' : CmpOp}
@[simp] theorem x_bind1 : (R.ok a s).bind k = k a s := rfl
@[simp] theorem x_bind2 : (R.ex x s : R α).bind k = .ex x s := rfl
@[simp] theorem x_bind3 : (R.no : R α).bind k = .no := rfl
@[simp] theorem x_to1 : (R.ok a s).to kk = kk a s := rfl
@[simp] theorem x_to2 : (R.ex x s : R α).to kk = .ex x s := rfl
@[simp] theorem x_to3 : (R.no : R α).to kk = .no := rfl
@[simp] theorem x_seq1 : (Fl.nx s).seq G = G s := rfl
@[simp] theorem x_seq2 : (Fl.rt d s).seq G = .rt d s := rfl
@[simp] theorem x_seq3 : (Fl.bk s).seq G = .bk s := rfl
@[simp] theorem x_seq4 : (Fl.ct s).seq G = .ct s := rfl
@[simp] theorem x_seq5 : (Fl.ex x s).seq G = .ex x s := rfl
@[simp] theorem x_seq6 : (Fl.no).seq G = .no := rfl
@[simp] theorem x_nx : nxS s = .nx s := rfl
@[simp] theorem x_brk : brkS s = .bk s := rfl
@[simp] theorem x_cnt : cntS s = .ct s := rfl
@[simp] theorem x_seqS : seqS P Q s = (P s).seq Q := rfl
@[simp] theorem x_retN : retN s = .rt .non s := rfl
def retO (i : Nat) (s1 : Sl) (o : Option (Option D)) : Fl := match o with
  | some (some d) => .rt d (s1.set i none)
  | _ => .no
def retK (e : EV) (s1 : Sl) : Fl := match e with
  | .val d => .rt d s1
  | .al i => retO i s1 s1[i]?
@[simp] theorem x_ret : retS f s = (f s).to retK := by unfold retS; congr 1
@[simp] theorem x_retK1 : retK (.val d) s = .rt d s := rfl
@[simp] theorem x_retK2 : retK (.al i) s = retO i s s[i]? := rfl
@[simp] theorem x_retO : retO i s (some (some d)) = .rt d (s.set i none) := rfl
def exprK (_ : EV) (s : Sl) : Fl := .nx s
@[simp] theorem x_expr : exprS f s = (f s).to exprK := rfl
@[simp] theorem x_exprK : exprK e s = .nx s := rfl
def ifK (P Q : Sl → Fl) (b : Bool) (s : Sl) : Fl := if b then P s else Q s
@[simp] theorem x_ifS : ifS c P Q s = (c s).to (ifK P Q) := rfl
@[simp] theorem x_ifK1 : ifK P Q true s = P s := rfl
@[simp] theorem x_ifK2 : ifK P Q false s = Q s := rfl
def penK (k : EV → Sl → R β) (e : EV) (s : Sl) : R β := k e.pend s
@[simp] theorem x_pen {k : EV → Sl → R β} : penE f k s = (f s).bind (penK k) := rfl
@[simp] theorem x_pen1 {k : EV → Sl → R β} : penK k (.val d) s = k (.val d.frz) s := rfl
@[simp] theorem x_pen2 {k : EV → Sl → R β} : penK k (.al i) s = k (.al i) s := rfl
def bin1K (g : Sl → R EV) (k : EV → EV → Sl → R β) (e : EV) (s : Sl) : R β := penE g (k e) s
@[simp] theorem x_bin2 {k : EV → EV → Sl → R β} : bin2 f g k s = (f s).bind (penK (bin1K g k)) := rfl
@[simp] theorem x_bin1 {k : EV → EV → Sl → R β} : bin1K g k e s = (g s).bind (penK (k e)) := rfl
@[simp] theorem x_const : constE d s = .ok (.val d) s := rfl
def namK (o : Option (Option D)) (i : Nat) (s : Sl) : R EV := match o with
  | some (some d) => if d.own then .ok (.al i) s else .ok (.val d) s
  | _ => .no
@[simp] theorem x_name : nameE i s = namK s[i]? i s := rfl
@[simp] theorem x_nam1 : namK (some (some d)) i s = cond d.own (.ok (.al i) s) (.ok (.val d) s) := by unfold namK; cases h : d.own <;> simp [h]
def okD (o : Option D) (s : Sl) : R EV := match o with
  | some d => .ok (.val d) s
  | none => .no
@[simp] theorem x_okD : okD (some d) s = .ok (.val d) s := rfl
def o2K (op : D → D → Option D) (o1 o2 : Option D) (s : Sl) : R EV := match o1, o2 with
  | some d1, some d2 => okD (op d1 d2) s
  | _, _ => .no
@[simp] theorem x_op2 {op : D → D → Option D} : op2K op e1 e2 s = o2K op (evR e1 s) (evR e2 s) s := rfl
@[simp] theorem x_o2 {op : D → D → Option D} {d1 d2 : D} : o2K op (some d1) (some d2) s = okD (op d1 d2) s := rfl
def o1K (op : D → Option D) (o1 : Option D) (s : Sl) : R EV := match o1 with
  | some d1 => okD (op d1) s
  | _ => .no
@[simp] theorem x_op1 {op : D → Option D} : op1K op e1 s = o1K op (evR e1 s) s := rfl
@[simp] theorem x_o1 {op : D → Option D} {d1 : D} : o1K op (some d1) s = okD (op d1) s := rfl
@[simp] theorem x_evR1 : evR (.val d) s = some d.frz := rfl
def frzO (o : Option (Option D)) : Option D := match o with
  | some (some d) => some d.frz
  | _ => none
@[simp] theorem x_evR2 : evR (.al i) s = frzO s[i]? := rfl
@[simp] theorem x_frzO : frzO (some (some d)) = some d.frz := rfl
@[simp] theorem x_evV1 : evV (.val d) s = some (d.frz, s) := rfl
def evK (o : Option (Option D)) (i : Nat) (s : Sl) : Option (D × Sl) := match o with
  | some (some d) => some (d.frz, s.set i (some d.frz))
  | _ => none
@[simp] theorem x_evV2 : evV (.al i) s = evK s[i]? i s := rfl
@[simp] theorem x_evK : evK (some (some d)) i s = some (d.frz, s.set i (some d.frz)) := rfl
/-! lists of values -/
def evs2 (d : D) (o : Option (List D × Sl)) : Option (List D × Sl) := match o with
  | some q => some (d :: q.1, q.2)
  | none => none
def evs1 (es : List EV) (o : Option (D × Sl)) : Option (List D × Sl) := match o with
  | some q => evs2 q.1 (evVs es q.2)
  | none => none
@[simp] theorem x_evVs0 : evVs [] s = some ([], s) := rfl
@[simp] theorem x_evVs1 : evVs (e :: es) s = evs1 es (evV e s) := by
  show (evV e s).bind _ = _
  cases evV e s with
  | none => rfl
  | some q =>
    show (evVs es q.2).bind _ = _
    cases h : evVs es q.2 <;> simp only [evs1, evs2, h] <;> rfl
@[simp] theorem x_evs1 {q : D × Sl} : evs1 es (some q) = evs2 q.1 (evVs es q.2) := rfl
@[simp] theorem x_evs2 {q : List D × Sl} : evs2 d (some q) = some (d :: q.1, q.2) := rfl
def args2 (e : EV) (es : List EV) (s : Sl) : R (List EV) := .ok (e :: es) s
def args1 (fs : List (Sl → R EV)) (e : EV) (s : Sl) : R (List EV) := (argsE fs s).bind (args2 e)
@[simp] theorem x_args0 : argsE [] s = .ok [] s := rfl
@[simp] theorem x_argsE : argsE (f :: fs) s = (f s).bind (penK (args1 fs)) := rfl
@[simp] theorem x_args1 : args1 fs e s = (argsE fs s).bind (args2 e) := rfl
@[simp] theorem x_args2 : args2 e es s = .ok (e :: es) s := rfl
def valsO (o : Option (List D × Sl)) : R (List D) := match o with
  | some (ds, s2) => .ok ds s2
  | none => .no
def valsK (es : List EV) (s : Sl) : R (List D) := valsO (evVs es s)
@[simp] theorem x_vals : valsE fs s = (argsE fs s).bind valsK := rfl
@[simp] theorem x_valsK : valsK es s = valsO (evVs es s) := rfl
@[simp] theorem x_valsO : valsO (some (ds, s)) = .ok ds s := rfl
theorem fits_of {n : Nat} (h : n ≤ 16000000) : fits n = true := Nat.ble_eq.mpr h
@[simp] theorem x_tupE {g : Sl → R (List D)} : tupE g s = (g s).bind tupK := rfl
@[simp] theorem x_lstE {g : Sl → R (List D)} : lstE g s = (g s).bind lstK := rfl
@[simp] theorem x_tupK (h : ds.length ≤ 16000000) : tupK ds s = .ok (.val (.tup ds)) s := if_pos (fits_of h)
@[simp] theorem x_lstK (h : ds.length ≤ 16000000) : lstK ds s = .ok (.val (.lst true ds)) s := if_pos (fits_of h)
/-! tests -/
def okB (o : Option Bool) (s : Sl) : R Bool := match o with
  | some b => .ok b s
  | none => .no
@[simp] theorem x_okB {b : Bool} : okB (some b) s = .ok b s := rfl
def cmp1 (o : CmpOp) (o1 o2 : Option D) (s : Sl) : R Bool := match o1, o2 with
  | some d1, some d2 => okB (cmpB o d1 d2) s
  | _, _ => .no
@[simp] theorem x_cmpT : cmpT o f g s = (f s).bind (penK (bin1K g (cmpK o))) := rfl
@[simp] theorem x_cmpK : cmpK o e1 e2 s = cmp1 o (evR e1 s) (evR e2 s) s := by
  unfold cmpK cmp1
  cases evR e1 s <;> cases evR e2 s <;> rfl
@[simp] theorem x_cmp1 : cmp1 o (some d1) (some d2) s = okB (cmpB o d1 d2) s := rfl
def chn2 (h : Sl → R EV) (o' : CmpOp) (e2 : EV) (b : Bool) (s : Sl) : R Bool := if b then penE h (fun e3 s3 => cmpK o' e2 e3 s3) s else .ok false s
def chn1 (h : Sl → R EV) (o o' : CmpOp) (e1 e2 : EV) (s : Sl) : R Bool := (cmpK o e1 e2 s).bind (chn2 h o' e2)
@[simp] theorem x_chain : chainT o o' f g h s = (f s).bind (penK (bin1K g (chn1 h o o'))) := rfl
@[simp] theorem x_chn1 : chn1 h o o' e1 e2 s = (cmpK o e1 e2 s).bind (chn2 h o' e2) := rfl
@[simp] theorem x_chn2t : chn2 h o' e2 true s = (h s).bind (penK (cmpK o' e2)) := rfl
@[simp] theorem x_chn2f : chn2 h o' e2 false s = .ok false s := rfl
def valK (b : Bool) (s : Sl) : R EV := .ok (.val (.bl b)) s
@[simp] theorem x_valB : valB c s = (c s).bind valK := rfl
@[simp] theorem x_valK {b : Bool} : valK b s = .ok (.val (.bl b)) s := rfl
def tru1 (o : Option D) (s : Sl) : R Bool := match o with
  | some d => okB (truD d) s
  | none => .no
@[simp] theorem x_truT : truT f s = (f s).bind (penK truK) := rfl
@[simp] theorem x_truK : truK e s = tru1 (evR e s) s := by
  unfold truK tru1
  cases evR e s <;> rfl
@[simp] theorem x_tru1 : tru1 (some d) s = okB (truD d) s := rfl
def notK (b : Bool) (s : Sl) : R Bool := .ok (!b) s
@[simp] theorem x_notT : notT c s = (c s).bind notK := rfl
@[simp] theorem x_notK {b : Bool} : notK b s = .ok (!b) s := rfl
def andK (c : Sl → R Bool) (b : Bool) (s : Sl) : R Bool := if b then c s else .ok false s
def orK (c : Sl → R Bool) (b : Bool) (s : Sl) : R Bool := if b then .ok true s else c s
@[simp] theorem x_andT : andT c c' s = (c s).bind (andK c') := rfl
@[simp] theorem x_orT : orT c c' s = (c s).bind (orK c') := rfl
@[simp] theorem x_andK1 : andK c true s = c s := rfl
@[simp] theorem x_andK2 : andK c false s = .ok false s := rfl
@[simp] theorem x_orK1 : orK c true s = .ok true s := rfl
@[simp] theorem x_orK2 : orK c false s = c s := rfl
def ifV (f g : Sl → R EV) (b : Bool) (s : Sl) : R EV := if b then f s else g s
@[simp] theorem x_ifE : ifE c f g s = (c s).bind (ifV f g) := rfl
@[simp] theorem x_ifV1 : ifV f g true s = f s := rfl
@[simp] theorem x_ifV2 : ifV f g false s = g s := rfl
def andV (g : Sl → R EV) (e : EV) (s : Sl) : R EV := match e with
  | .val (.bl true) => g s
  | .val (.bl false) => .ok (.val (.bl false)) s
  | _ => .no
def orV (g : Sl → R EV) (e : EV) (s : Sl) : R EV := match e with
  | .val (.bl true) => .ok (.val (.bl true)) s
  | .val (.bl false) => g s
  | _ => .no
def notV (e : EV) (s : Sl) : R EV := match e with
  | .val (.bl b) => .ok (.val (.bl (!b))) s
  | _ => .no
@[simp] theorem x_andE : andE f g s = (f s).bind (andV g) := rfl
@[simp] theorem x_orE : orE f g s = (f s).bind (orV g) := rfl
@[simp] theorem x_notE : notE f s = (f s).bind notV := rfl
@[simp] theorem x_andV1 : andV g (.val (.bl true)) s = g s := rfl
@[simp] theorem x_andV2 : andV g (.val (.bl false)) s = .ok (.val (.bl false)) s := rfl
@[simp] theorem x_orV1 : orV g (.val (.bl true)) s = .ok (.val (.bl true)) s := rfl
@[simp] theorem x_orV2 : orV g (.val (.bl false)) s = g s := rfl
@[simp] theorem x_notV {b : Bool} : notV (.val (.bl b)) s = .ok (.val (.bl (!b))) s := rfl
/-! indexing -/
def okX (o : Option D) (s : Sl) : R EV := match o with
  | some d => if d.own then .no else .ok (.val d) s
  | none => .no
@[simp] theorem x_okX : okX (some d) s = cond d.own .no (.ok (.val d) s) := by unfold okX; cases h : d.own <;> simp [h]
def ixO (o1 o2 : Option D) (s : Sl) : R EV := match o1, o2 with
  | some d1, some d2 => okX (ixD d1 d2) s
  | _, _ => .no
@[simp] theorem x_ixK : ixK e1 e2 s = ixO (evR e1 s) (evR e2 s) s := by
  unfold ixK ixO okX
  cases evR e1 s <;> cases evR e2 s <;> rfl
@[simp] theorem x_ixO : ixO (some d1) (some d2) s = okX (ixD d1 d2) s := rfl
/-! built-ins -/
def blt1 (op : List D → Option D) (o : Option (List D)) (s : Sl) : R EV := match o with
  | some ds => okD (op ds) s
  | none => .no
@[simp] theorem x_bltE {op : List D → Option D} : bltE op fs s = (argsE fs s).bind (bltK op) := rfl
@[simp] theorem x_bltK {op : List D → Option D} : bltK op es s = blt1 op (rdArgs es s) s := by
  unfold bltK blt1 okD
  cases rdArgs es s <;> rfl
@[simp] theorem x_blt1 {op : List D → Option D} : blt1 op (some ds) s = okD (op ds) s := rfl
def rd2 (d : D) (o : Option (List D)) : Option (List D) := match o with
  | some ds => some (d :: ds)
  | none => none
def rd1 (es : List EV) (s : Sl) (o : Option D) : Option (List D) := match o with
  | some d => rd2 d (rdArgs es s)
  | none => none
@[simp] theorem x_rd0 : rdArgs [] s = some [] := rfl
@[simp] theorem x_rd : rdArgs (e :: es) s = rd1 es s (evR e s) := by
  show (evR e s).bind _ = _
  cases evR e s with
  | none => rfl
  | some q =>
    show (rdArgs es s).bind _ = _
    cases h : rdArgs es s <;> simp only [rd1, rd2, h] <;> rfl
@[simp] theorem x_rd1 : rd1 es s (some d) = rd2 d (rdArgs es s) := rfl
@[simp] theorem x_rd2 : rd2 d (some ds) = some (d :: ds) := rfl
def isi1 (t : TN) (d : D) : Option D := (isTy t d).map .bl
@[simp] theorem x_isiE {t : TN} : isiE t f s = (f s).bind (penK (op1K (isi1 t))) := rfl
def tgB (t : TN) (o : Option Tg) : Option D := match o with
  | some g => some (.bl (t.is g))
  | none => none
@[simp] theorem x_isi1 {t : TN} : isi1 t d = tgB t d.tg := by unfold isi1 isTy tgB; cases d.tg <;> rfl
@[simp] theorem x_tgB {t : TN} {g : Tg} : tgB t (some g) = some (.bl (t.is g)) := rfl
@[simp] theorem x_is_tuple_non : TN.is .tuple .non = false := rfl
@[simp] theorem x_is_tuple_bl : TN.is .tuple .bl = false := rfl
@[simp] theorem x_is_tuple_int : TN.is .tuple .int = false := rfl
@[simp] theorem x_is_tuple_str : TN.is .tuple .str = false := rfl
@[simp] theorem x_is_tuple_tup : TN.is .tuple .tup = true := rfl
@[simp] theorem x_is_tuple_lst : TN.is .tuple .lst = false := rfl
@[simp] theorem x_is_tuple_dct : TN.is .tuple .dct = false := rfl
@[simp] theorem x_is_list_non : TN.is .list .non = false := rfl
@[simp] theorem x_is_list_bl : TN.is .list .bl = false := rfl
@[simp] theorem x_is_list_int : TN.is .list .int = false := rfl
@[simp] theorem x_is_list_str : TN.is .list .str = false := rfl
@[simp] theorem x_is_list_tup : TN.is .list .tup = false := rfl
@[simp] theorem x_is_list_lst : TN.is .list .lst = true := rfl
@[simp] theorem x_is_list_dct : TN.is .list .dct = false := rfl
@[simp] theorem x_is_int_non : TN.is .int .non = false := rfl
@[simp] theorem x_is_int_bl : TN.is .int .bl = true := rfl
@[simp] theorem x_is_int_int : TN.is .int .int = true := rfl
@[simp] theorem x_is_int_str : TN.is .int .str = false := rfl
@[simp] theorem x_is_int_tup : TN.is .int .tup = false := rfl
@[simp] theorem x_is_int_lst : TN.is .int .lst = false := rfl
@[simp] theorem x_is_int_dct : TN.is .int .dct = false := rfl
@[simp] theorem x_is_bool_non : TN.is .bool .non = false := rfl
@[simp] theorem x_is_bool_bl : TN.is .bool .bl = true := rfl
@[simp] theorem x_is_bool_int : TN.is .bool .int = false := rfl
@[simp] theorem x_is_bool_str : TN.is .bool .str = false := rfl
@[simp] theorem x_is_bool_tup : TN.is .bool .tup = false := rfl
@[simp] theorem x_is_bool_lst : TN.is .bool .lst = false := rfl
@[simp] theorem x_is_bool_dct : TN.is .bool .dct = false := rfl
@[simp] theorem x_is_str_non : TN.is .str .non = false := rfl
@[simp] theorem x_is_str_bl : TN.is .str .bl = false := rfl
@[simp] theorem x_is_str_int : TN.is .str .int = false := rfl
@[simp] theorem x_is_str_str : TN.is .str .str = true := rfl
@[simp] theorem x_is_str_tup : TN.is .str .tup = false := rfl
@[simp] theorem x_is_str_lst : TN.is .str .lst = false := rfl
@[simp] theorem x_is_str_dct : TN.is .str .dct = false := rfl
@[simp] theorem x_is_dict_non : TN.is .dict .non = false := rfl
@[simp] theorem x_is_dict_bl : TN.is .dict .bl = false := rfl
@[simp] theorem x_is_dict_int : TN.is .dict .int = false := rfl
@[simp] theorem x_is_dict_str : TN.is .dict .str = false := rfl
@[simp] theorem x_is_dict_tup : TN.is .dict .tup = false := rfl
@[simp] theorem x_is_dict_lst : TN.is .dict .lst = false := rfl
@[simp] theorem x_is_dict_dct : TN.is .dict .dct = true := rfl
@[simp] theorem x_tg1 : D.tg .non = some .non := rfl
@[simp] theorem x_tg2 {b : Bool} : D.tg (.bl b) = some .bl := rfl
@[simp] theorem x_tg3 {n : Int} : D.tg (.int n) = some .int := rfl
@[simp] theorem x_tg4 {z : Str} : D.tg (.str z) = some .str := rfl
@[simp] theorem x_tg5 : D.tg (.tup xs) = some .tup := rfl
@[simp] theorem x_tg6 {b : Bool} : D.tg (.lst b xs) = some .lst := rfl
@[simp] theorem x_tg7 : D.tg (.ro xs) = some .lst := rfl
@[simp] theorem x_tg8 {b : Bool} {ks : List Key} : D.tg (.dct b ks xs) = some .dct := rfl
/-! statements that store -/
def setO (i j : Nat) (s : Sl) (o : Option (Option D)) : Fl := match o with
  | some (some d) => if Nat.blt i s.length then .nx ((s.set j (some d.frz)).set i (some d.frz)) else .no
  | _ => .no
def setK (i : Nat) (e : EV) (s : Sl) : Fl := match e with
  | .val d => if Nat.blt i s.length then .nx (s.set i (some d)) else .no
  | .al j => setO i j s s[j]?
@[simp] theorem x_setS : setS i f s = (f s).to (setK i) := by
  unfold setS
  congr 1
@[simp] theorem x_setK1 (h : i < s.length) : setK i (.val d) s = .nx (s.set i (some d)) := if_pos (Nat.blt_eq.mpr h)
@[simp] theorem x_setK2 : setK i (.al j) s = setO i j s s[j]? := rfl
@[simp] theorem x_setO (h : i < s.length) : setO i j s (some (some d)) = .nx ((s.set j (some d.frz)).set i (some d.frz)) := if_pos (Nat.blt_eq.mpr h)
def asg2 (o : Option Sl) : Fl := match o with
  | some s3 => .nx s3
  | none => .no
def asg1 (tg : D → Sl → Option Sl) (o : Option (D × Sl)) : Fl := match o with
  | some q => asg2 (tg q.1 q.2)
  | none => .no
def asgK (tg : D → Sl → Option Sl) (e : EV) (s : Sl) : Fl := asg1 tg (evV e s)
def okE (e : EV) (s : Sl) : R EV := .ok e s
@[simp] theorem x_okE : okE e s = .ok e s := rfl
@[simp] theorem x_asgS {tg : D → Sl → Option Sl} : asgS tg f s = ((f s).bind (penK okE)).to (asgK tg) := by
  unfold asgS
  show ((f s).bind _).to _ = ((f s).bind _).to _
  congr 1
  funext e s1
  unfold asgK asg1 asg2
  cases evV e s1 with
  | none => rfl
  | some q => rfl
@[simp] theorem x_asgK {tg : D → Sl → Option Sl} : asgK tg e s = asg1 tg (evV e s) := rfl
@[simp] theorem x_asg1 {tg : D → Sl → Option Sl} {q : D × Sl} : asg1 tg (some q) = asg2 (tg q.1 q.2) := rfl
@[simp] theorem x_asg2 : asg2 (some s) = .nx s := rfl
@[simp] theorem x_tgN (h : i < s.length) : tgN i d s = some (s.set i (some d)) := if_pos (Nat.blt_eq.mpr h)
def sto6 (i : Nat) (d : D) (s : Sl) (xs : List D) (o : Option Nat) : R Unit := match o with
  | some j => .ok () (s.set i (some (.lst true (xs.set j d))))
  | none => .no
def sto5 (i : Nat) (d : D) (s : Sl) (o1 : Option D) (o2 : Option (Option D)) : R Unit := match o1, o2 with
  | some (.int k), some (some (.lst true xs)) => sto6 i d s xs (ixN xs.length k)
  | _, _ => .no
def sto4 (i : Nat) (ei : EV) (o : Option (D × Sl)) : R Unit := match o with
  | some q => sto5 i q.1 q.2 (evR ei q.2) q.2[i]?
  | none => .no
def sto3 (i : Nat) (ev ei : EV) (s : Sl) : R Unit := sto4 i ei (evV ev s)
def sto2 (i : Nat) (fi : Sl → R EV) (ev : EV) (s : Sl) (o : Option (Option D)) : R Unit := match o with
  | some (some (.lst true _)) => penE fi (sto3 i ev) s
  | _ => .no
def sto1 (i : Nat) (fi : Sl → R EV) (ev : EV) (s : Sl) : R Unit := sto2 i fi ev s s[i]?
def nxU (_ : Unit) (s : Sl) : Fl := .nx s
@[simp] theorem x_nxU {u : Unit} : nxU u s = .nx s := rfl
@[simp] theorem x_stoS : stoS i f g s = ((g s).bind (penK (sto1 i f))).to nxU := by
  have e3 : ∀ ev, (fun (ei : EV) (s2 : Sl) => (match evV ev s2 with
    | some (d, s3) => match evR ei s3, s3[i]? with
      | some (.int k), some (some (.lst true xs)) => match ixN xs.length k with
        | some j => R.ok () (s3.set i (some (.lst true (xs.set j d))))
        | none => .no
      | _, _ => .no
    | none => .no : R Unit)) = sto3 i ev := by
    intro ev
    funext ei s2
    unfold sto3 sto4
    generalize evV ev s2 = o
    cases o with
    | none => rfl
    | some q =>
      obtain ⟨d, s3⟩ := q
      unfold sto5 sto6
      dsimp only
  have e1 : (fun (ev : EV) (s1 : Sl) => (match s1[i]? with
  | some (some (.lst true _)) => penE f (fun ei s2 => match evV ev s2 with
    | some (d, s3) => match evR ei s3, s3[i]? with
      | some (.int k), some (some (.lst true xs)) => match ixN xs.length k with
        | some j => R.ok () (s3.set i (some (.lst true (xs.set j d))))
        | none => .no
      | _, _ => .no
    | none => .no) s1
  | _ => .no)) = sto1 i f := by
    funext ev s1
    unfold sto1 sto2
    generalize s1[i]? = o
    rcases o with _ | _ | dd
    · rfl
    · rfl
    · cases dd <;> try rfl
      rename_i b xs
      cases b
      · rfl
      · dsimp only
        rw [e3]
  exact congrArg (fun k => (penE g k s).to nxU) e1
@[simp] theorem x_sto1 : sto1 i f e s = sto2 i f e s s[i]? := rfl
@[simp] theorem x_sto2 : sto2 i f e s (some (some (.lst true ds))) = (f s).bind (penK (sto3 i e)) := rfl
@[simp] theorem x_sto3 : sto3 i e1 e2 s = sto4 i e2 (evV e1 s) := rfl
@[simp] theorem x_sto4 {q : D × Sl} : sto4 i e (some q) = sto5 i q.1 q.2 (evR e q.2) q.2[i]? := rfl
@[simp] theorem x_sto5 {k : Int} : sto5 i d s (some (.int k)) (some (some (.lst true xs))) = sto6 i d s xs (ixN xs.length k) := rfl
@[simp] theorem x_sto6 : sto6 i d s xs (some j) = .ok () (s.set i (some (.lst true (xs.set j d)))) := rfl
/-! lists that grow -/
def app4 (i : Nat) (d : D) (s : Sl) (o : Option (Option D)) : R EV := match o with
  | some (some (.lst true xs)) => if fits (xs.length + 1) then .ok (.val .non) (s.set i (some (.lst true (xs ++ [d])))) else .no
  | _ => .no
def app3 (i : Nat) (o : Option (D × Sl)) : R EV := match o with
  | some q => app4 i q.1 q.2 q.2[i]?
  | none => .no
def app2 (i : Nat) (e : EV) (s : Sl) : R EV := app3 i (evV e s)
def app1 (i : Nat) (f : Sl → R EV) (s : Sl) (o : Option (Option D)) : R EV := match o with
  | some (some (.lst true _)) => penE f (app2 i) s
  | _ => .no
@[simp] theorem x_appE : appE i f s = app1 i f s s[i]? := by
  have e : (fun (ev : EV) (s1 : Sl) => (match evV ev s1 with
    | some (d, s2) => match s2[i]? with
      | some (some (.lst true xs)) => if fits (xs.length + 1) then R.ok (EV.val .non) (s2.set i (some (.lst true (xs ++ [d])))) else .no
      | _ => .no
    | none => .no)) = app2 i := by
    funext ev s1
    unfold app2 app3
    cases evV ev s1 with
    | none => rfl
    | some q => rfl
  unfold appE app1
  rw [← e]
  try rfl
@[simp] theorem x_app1 : app1 i f s (some (some (.lst true ds))) = (f s).bind (penK (app2 i)) := rfl
@[simp] theorem x_app2 : app2 i e s = app3 i (evV e s) := rfl
@[simp] theorem x_app3 {q : D × Sl} : app3 i (some q) = app4 i q.1 q.2 q.2[i]? := rfl
@[simp] theorem x_app4 (h : xs.length < 16000000) : app4 i d s (some (some (.lst true xs))) = .ok (.val .non) (s.set i (some (.lst true (xs ++ [d])))) := if_pos (fits_of h)
def ext3 (i : Nat) (s : Sl) (ys : List D) (o : Option (Option D)) : R EV := match o with
  | some (some (.lst true xs)) => if fits (xs.length + ys.length) then .ok (.val .non) (s.set i (some (.lst true (xs ++ ys)))) else .no
  | _ => .no
def ext4 (i : Nat) (s : Sl) (o : Option (List D)) : R EV := match o with
  | some ys => ext3 i s ys s[i]?
  | none => .no
def ext5 (o : Option D) : Option (List D) := match o with
  | some d => d.items
  | none => none
def ext2 (i : Nat) (e : EV) (s : Sl) : R EV := ext4 i s (ext5 (evR e s))
def ext1 (i : Nat) (f : Sl → R EV) (s : Sl) (o : Option (Option D)) : R EV := match o with
  | some (some (.lst true _)) => penE f (ext2 i) s
  | _ => .no
@[simp] theorem x_extE : extE i f s = ext1 i f s s[i]? := by
  have e : (fun (ev : EV) (s1 : Sl) => (match (evR ev s1).bind D.items with
    | some ys => match s1[i]? with
      | some (some (.lst true xs)) => if fits (xs.length + ys.length) then R.ok (EV.val .non) (s1.set i (some (.lst true (xs ++ ys)))) else .no
      | _ => .no
    | none => .no)) = ext2 i := by
    funext ev s1
    unfold ext2 ext4 ext5
    cases evR ev s1 with
    | none => rfl
    | some q => rfl
  unfold extE ext1
  rw [← e]
  try rfl
@[simp] theorem x_ext1 : ext1 i f s (some (some (.lst true ds))) = (f s).bind (penK (ext2 i)) := rfl
@[simp] theorem x_ext2 : ext2 i e s = ext4 i s (ext5 (evR e s)) := rfl
@[simp] theorem x_ext5 : ext5 (some d) = d.items := rfl
@[simp] theorem x_items {b : Bool} : D.items (.lst b xs) = some xs := rfl
@[simp] theorem x_ext4 : ext4 i s (some ds) = ext3 i s ds s[i]? := rfl
@[simp] theorem x_ext3 (h : xs.length + ds.length ≤ 16000000) : ext3 i s ds (some (some (.lst true xs))) = .ok (.val .non) (s.set i (some (.lst true (xs ++ ds)))) := if_pos (fits_of h)
/-! slices -/
def sl4 (l u : Option Int) (s : Sl) (o : Option D) : R EV := match o with
  | some d => okD (slD d l u) s
  | none => .no
def sl3 (e : EV) (l u : Option Int) (s : Sl) : R EV := sl4 l u s (evR e s)
def sl2 (hi : Option (Sl → R EV)) (e : EV) (l : Option Int) (s : Sl) : R EV := (partE hi s).bind (sl3 e l)
def sl1 (lo hi : Option (Sl → R EV)) (e : EV) (s : Sl) : R EV := (partE lo s).bind (sl2 hi e)
@[simp] theorem x_slE {lo hi : Option (Sl → R EV)} : slE f lo hi s = (f s).bind (penK (sl1 lo hi)) := by
  have e : (fun (e : EV) (s : Sl) => (partE lo s).bind fun l s1 => (partE hi s1).bind fun u s2 => (match evR e s2 with
  | some d => match slD d l u with
    | some d' => R.ok (EV.val d') s2
    | none => .no
  | none => .no)) = sl1 lo hi := by
    funext e s
    unfold sl1
    congr 1
  show penE f _ s = _
  exact congrArg (fun k => penE f k s) e
@[simp] theorem x_sl1 {lo hi : Option (Sl → R EV)} : sl1 lo hi e s = (partE lo s).bind (sl2 hi e) := rfl
@[simp] theorem x_sl2 {hi : Option (Sl → R EV)} {l : Option Int} : sl2 hi e l s = (partE hi s).bind (sl3 e l) := rfl
@[simp] theorem x_sl3 {l u : Option Int} : sl3 e l u s = sl4 l u s (evR e s) := rfl
@[simp] theorem x_sl4 {l u : Option Int} : sl4 l u s (some d) = okD (slD d l u) s := rfl
def prt2 (s : Sl) (o : Option D) : R (Option Int) := match o with
  | some (.int i) => .ok (some i) s
  | _ => .no
def prt1 (e : EV) (s : Sl) : R (Option Int) := prt2 s (evR e s)
@[simp] theorem x_part0 : partE none s = .ok none s := rfl
@[simp] theorem x_part1 : partE (some f) s = (f s).bind (penK prt1) := rfl
@[simp] theorem x_prt1 : prt1 e s = prt2 s (evR e s) := rfl
@[simp] theorem x_prt2 {n : Int} : prt2 s (some (.int n)) = .ok (some n) s := rfl
@[simp] theorem x_slD1 {l u : Option Int} : slD (.tup xs) l u = some (.tup (cutD xs l u)) := rfl
@[simp] theorem x_slD2 {b : Bool} {l u : Option Int} : slD (.lst b xs) l u = some (.lst true (cutD xs l u)) := rfl
/-! more walks -/
def rngF (e1 e2 : EV) (s : Sl) : R (List D) := intK (fun i s => intK (fun j s => if decide (j ≤ 1000000000) && decide (-1000000000 ≤ j) && decide (i ≤ 1000000000) && decide (-1000000000 ≤ i) then .ok (upto i (j - i).toNat) s else .no) e2 s) e1 s
@[simp] theorem x_rng2 : rng2 f g s = (f s).bind (penK (bin1K g rngF)) := rfl
theorem x_rngF {i j : Int} (h1 : evR e1 s = some (.int i)) (h2 : evR e2 s = some (.int j)) (h3 : j ≤ 1000000000) (h4 : -1000000000 ≤ j) (h5 : i ≤ 1000000000) (h6 : -1000000000 ≤ i) : rngF e1 e2 s = .ok (upto i (j - i).toNat) s := by
  unfold rngF intK
  rw [h1]
  dsimp only
  rw [h2]
  dsimp only
  rw [decide_eq_true h3, decide_eq_true h4, decide_eq_true h5, decide_eq_true h6]
  rfl
@[simp] theorem x_rngF' {m n : Int} (h3 : n ≤ 1000000000) (h4 : -1000000000 ≤ n) (h5 : m ≤ 1000000000) (h6 : -1000000000 ≤ m) : rngF (.val (.int m)) (.val (.int n)) s = .ok (upto m (n - m).toNat) s := x_rngF rfl rfl h3 h4 h5 h6
def enumO (o : Option (D × Sl)) : R (List D) := match o with
  | some (.lst _ xs, s1) => .ok (enumL 0 xs) s1
  | _ => .no
def enumK (e : EV) (s : Sl) : R (List D) := enumO (evV e s)
@[simp] theorem x_enumI : enumI f s = (f s).bind (penK enumK) := by
  show penE f _ s = _
  have e : (fun (e : EV) (s : Sl) => (match evV e s with
  | some (.lst _ xs, s1) => R.ok (enumL 0 xs) s1
  | _ => .no)) = enumK := by
    funext e s
    unfold enumK enumO
    cases evV e s with
    | none => rfl
    | some q => rfl
  exact congrArg (fun k => penE f k s) e
@[simp] theorem x_enumK : enumK e s = enumO (evV e s) := rfl
@[simp] theorem x_enumO {b : Bool} : enumO (some (.lst b xs, s)) = .ok (enumL 0 xs) s := rfl
/-! stars -/
def stx2 (ds : List D) (es : List EV) (s : Sl) : R (List EV) := .ok (ds.map EV.val ++ es) s
def stx1 (k : Sl → R (List EV)) (s : Sl) (o : Option (List D)) : R (List EV) := match o with
  | some ds => if plainL ds then (k s).bind (stx2 ds) else .no
  | none => .no
def stx3 (o : Option D) : Option (List D) := match o with
  | some d => d.its
  | none => none
@[simp] theorem x_starK {k : Sl → R (List EV)} : starK k e s = stx1 k s (stx3 (evR e s)) := by
  unfold starK stx1 stx3
  cases evR e s <;> rfl
@[simp] theorem x_stx3 : stx3 (some d) = d.its := rfl
@[simp] theorem x_its1 {b : Bool} : D.its (.lst b xs) = some xs := rfl
@[simp] theorem x_its2 : D.its (.tup xs) = some xs := rfl
@[simp] theorem x_stx1 {k : Sl → R (List EV)} (h : plainL ds = true) : stx1 k s (some ds) = (k s).bind (stx2 ds) := if_pos h
@[simp] theorem x_stx2 : stx2 ds es s = .ok (ds.map EV.val ++ es) s := rfl
def arx1 (fs : List (Bool × (Sl → R EV))) (e : EV) (s : Sl) : R (List EV) := (argsX fs s).bind (args2 e)
@[simp] theorem x_argsX0 : argsX [] s = .ok [] s := rfl
@[simp] theorem x_argsX1 {fs : List (Bool × (Sl → R EV))} : argsX ((false, f) :: fs) s = (f s).bind (penK (arx1 fs)) := rfl
@[simp] theorem x_argsX2 {fs : List (Bool × (Sl → R EV))} : argsX ((true, f) :: fs) s = (f s).bind (penK (starK (argsX fs))) := rfl
@[simp] theorem x_arx1 {fs : List (Bool × (Sl → R EV))} : arx1 fs e s = (argsX fs s).bind (args2 e) := rfl
@[simp] theorem x_valsX {fs : List (Bool × (Sl → R EV))} : valsX fs s = (argsX fs s).bind valsK := rfl
/-- frozen data stay -/
theorem evVs_vals : ∀ (ds : List D) {es : List EV} {r : List D} {s' : Sl}, (∀ d ∈ ds, d.frz = d) → evVs es s = some (r, s') → evVs (ds.map EV.val ++ es) s = some (ds ++ r, s')
  | [], es, r, s', _, h => h
  | d :: ds, es, r, s', hf, h => by
    rw [List.map_cons, List.cons_append, x_evVs1, x_evV1, x_evs1]
    rw [evVs_vals ds (fun d' hd => hf d' (List.mem_cons_of_mem _ hd)) h, x_evs2, hf d (by simp)]
    rfl
/-! calls -/
def calK (pins : List Bool) (F : Fl) : CR := match F with
  | .rt d s => .ok d (maskP pins s)
  | .nx s => .ok .non (maskP pins s)
  | .ex x s => .ex x (maskP pins s)
  | _ => .no
theorem x_calOf {n : Nat} {pins : List Bool} : calOf P n pins ds = calK pins (P (begS n ds)) := rfl
@[simp] theorem x_calK1 {pins : List Bool} : calK pins (.rt d s) = .ok d (maskP pins s) := rfl
@[simp] theorem x_calK2 {pins : List Bool} : calK pins (.nx s) = .ok .non (maskP pins s) := rfl
@[simp] theorem x_calK3 {pins : List Bool} : calK pins (.ex x s) = .ex x (maskP pins s) := rfl
@[simp] theorem x_mask0 : maskP [] s = [] := by cases s <;> rfl
@[simp] theorem x_mask1 {pins : List Bool} {o : Option D} : maskP (true :: pins) (o :: s) = o :: maskP pins s := rfl
@[simp] theorem x_mask2 {pins : List Bool} {o : Option D} : maskP (false :: pins) (o :: s) = none :: maskP pins s := rfl
def cll2 (pins : List Bool) (es : List EV) (s : Sl) (c : CR) : R EV := match c with
  | .ok d ds' => if Nat.beq ds'.length pins.length then .ok (.val d) (giveA pins es ds' s) else .no
  | .ex x ds' => if Nat.beq ds'.length pins.length then .ex x (giveA pins es ds' s) else .no
  | .no => .no
def cll1 (cal : List D → CR) (pins : List Bool) (es : List EV) (o : Option (List D × Sl)) : R EV := match o with
  | none => .no
  | some q => cll2 pins es q.2 (cal q.1)
@[simp] theorem x_callE {cal : List D → CR} {pins : List Bool} : callE cal pins fs s = (argsE fs s).bind (callK cal pins) := rfl
@[simp] theorem x_callK {cal : List D → CR} {pins : List Bool} : callK cal pins es s = cll1 cal pins es (takeA pins es s) := by
  unfold callK cll1 cll2
  cases takeA pins es s with
  | none => rfl
  | some q => cases h : cal q.1 <;> simp only [h]
@[simp] theorem x_cll1 {cal : List D → CR} {pins : List Bool} {q : List D × Sl} : cll1 cal pins es (some q) = cll2 pins es q.2 (cal q.1) := rfl
@[simp] theorem x_cll2 {pins : List Bool} {s' : Sl} (h : s'.length = pins.length) : cll2 pins es s (.ok d s') = .ok (.val d) (giveA pins es s' s) := if_pos (by rw [h]; exact Nat.beq_refl _)
@[simp] theorem x_cll3 {pins : List Bool} {s' : Sl} (h : s'.length = pins.length) : cll2 pins es s (.ex x s') = .ex x (giveA pins es s' s) := if_pos (by rw [h]; exact Nat.beq_refl _)
def tak2 (d : D) (o : Option (List D × Sl)) : Option (List D × Sl) := match o with
  | some q => some (d :: q.1, q.2)
  | none => none
def tak1 (ps : List Bool) (es : List EV) (o : Option (D × Sl)) : Option (List D × Sl) := match o with
  | some q => tak2 q.1 (takeA ps es q.2)
  | none => none
theorem x_takC {ps : List Bool} {p : Bool} : takeA (p :: ps) (e :: es) s = tak1 ps es (if p then takeE e s else evV e s) := by
  show (if p then takeE e s else evV e s).bind _ = _
  cases (if p then takeE e s else evV e s) with
  | none => rfl
  | some q =>
    show (takeA ps es q.2).bind _ = _
    cases h : takeA ps es q.2 <;> simp only [tak1, tak2, h] <;> rfl
@[simp] theorem x_tak0 : takeA [] [] s = some ([], s) := rfl
@[simp] theorem x_takT {ps : List Bool} : takeA (true :: ps) (e :: es) s = tak1 ps es (takeE e s) := x_takC
@[simp] theorem x_takF {ps : List Bool} : takeA (false :: ps) (e :: es) s = tak1 ps es (evV e s) := x_takC
@[simp] theorem x_tak1 {ps : List Bool} {q : D × Sl} : tak1 ps es (some q) = tak2 q.1 (takeA ps es q.2) := rfl
@[simp] theorem x_tak2 {q : List D × Sl} : tak2 d (some q) = some (d :: q.1, q.2) := rfl
def takO (i : Nat) (s : Sl) (o : Option (Option D)) : Option (D × Sl) := match o with
  | some (some d) => some (d, s.set i none)
  | _ => none
@[simp] theorem x_takeE1 : takeE (.val d) s = some (d.frz, s) := rfl
@[simp] theorem x_takeE2 : takeE (.al i) s = takO i s s[i]? := rfl
@[simp] theorem x_takO : takO i s (some (some d)) = some (d, s.set i none) := rfl
@[simp] theorem x_giv0 : giveA [] es s s1 = s1 := by cases es <;> rfl
@[simp] theorem x_giv1 {ps : List Bool} {o : Option D} : giveA (true :: ps) (.al i :: es) (o :: s) s1 = giveA ps es s (s1.set i o) := rfl
@[simp] theorem x_giv2 {ps : List Bool} {o : Option D} : giveA (false :: ps) (.al i :: es) (o :: s) s1 = giveA ps es s s1 := rfl
@[simp] theorem x_giv3 {ps : List Bool} {p : Bool} {o : Option D} : giveA (p :: ps) (.val d :: es) (o :: s) s1 = giveA ps es s s1 := by cases p <;> rfl
/-! loops -/
@[simp] theorem x_forS {gi : Sl → R (List D)} {tg : D → Sl → Option Sl} : forS gi tg P s = (gi s).to (forL (stepS tg P)) := rfl
@[simp] theorem x_forL0 {st : D → Sl → Fl} : forL st [] s = .nx s := rfl
def for1 (st : D → Sl → Fl) (ds : List D) (F : Fl) : Fl := match F with
  | .nx s1 => forL st ds s1
  | .ct s1 => forL st ds s1
  | .bk s1 => .nx s1
  | r => r
theorem x_forL {st : D → Sl → Fl} : forL st (d :: ds) s = for1 st ds (st d s) := by
  show (match st d s with
    | .nx s1 => forL st ds s1
    | .ct s1 => forL st ds s1
    | .bk s1 => .nx s1
    | r => r) = _
  cases st d s <;> rfl
@[simp] theorem x_for1 {st : D → Sl → Fl} : for1 st ds (.nx s) = forL st ds s := rfl
@[simp] theorem x_for2 {st : D → Sl → Fl} : for1 st ds (.ct s) = forL st ds s := rfl
@[simp] theorem x_for3 {st : D → Sl → Fl} : for1 st ds (.bk s) = .nx s := rfl
@[simp] theorem x_for4 {st : D → Sl → Fl} : for1 st ds (.rt d s) = .rt d s := rfl
@[simp] theorem x_for5 {st : D → Sl → Fl} : for1 st ds (.ex x s) = .ex x s := rfl
def stp1 (P : Sl → Fl) (o : Option Sl) : Fl := match o with
  | some s1 => P s1
  | none => .no
@[simp] theorem x_stepS {tg : D → Sl → Option Sl} : stepS tg P d s = stp1 P (tg d s) := by unfold stepS stp1; cases tg d s <;> rfl
@[simp] theorem x_stp1 : stp1 P (some s) = P s := rfl
def intO (k : Int → Sl → R β) (s : Sl) (o : Option D) : R β := match o with
  | some (.int i) => k i s
  | _ => .no
@[simp] theorem x_intK {k : Int → Sl → R β} : intK k e s = intO k s (evR e s) := by unfold intK intO; cases evR e s <;> rfl
@[simp] theorem x_intO {k : Int → Sl → R β} {n : Int} : intO k s (some (.int n)) = k n s := rfl
def rngK (j : Int) (s : Sl) : R (List D) := if decide (j ≤ 1000000000) && decide (-1000000000 ≤ j) then .ok (upto 0 j.toNat) s else .no
@[simp] theorem x_rng1 : rng1 f s = (f s).bind (penK (intK rngK)) := rfl
@[simp] theorem x_rngK {j : Int} (h : j ≤ 1000000000) (h' : -1000000000 ≤ j) : rngK j s = .ok (upto 0 j.toNat) s := by
  unfold rngK
  rw [decide_eq_true h, decide_eq_true h']
  rfl
def pl1 (ds : List D) (s : Sl) : R (List D) := if plainL ds then .ok ds s else .no
@[simp] theorem x_plI {g : Sl → R (List D)} : plI g s = (g s).bind pl1 := rfl
@[simp] theorem x_pl1 (h : plainL ds = true) : pl1 ds s = .ok ds s := if_pos h
@[simp] theorem x_plain0 : plainL [] = true := rfl
@[simp] theorem x_plain1 : plainL (d :: ds) = (!d.own && plainL ds) := rfl
@[simp] theorem x_seqI : seqI f s = (f s).bind (penK seqItems) := rfl
def itO (o : Option (D × Sl)) : R (List D) := match o with
  | some (.lst _ xs, s1) => .ok xs s1
  | some (.ro xs, s1) => .ok xs s1
  | some (.tup xs, s1) => .ok xs s1
  | some (.str x, s1) => .ok (x.cps.toList.map fun c => .str ⟨#[c]⟩) s1
  | _ => .no
@[simp] theorem x_seqItems : seqItems e s = itO (evV e s) := by unfold seqItems itO; split <;> simp_all
@[simp] theorem x_itO1 {o : Bool} : itO (some (.lst o xs, s)) = .ok xs s := rfl
@[simp] theorem x_itO2 : itO (some (.ro xs, s)) = .ok xs s := rfl
@[simp] theorem x_itO3 : itO (some (.tup xs, s)) = .ok xs s := rfl
@[simp] theorem x_itO4 {x : Str} : itO (some (.str x, s)) = .ok (x.cps.toList.map fun c => .str ⟨#[c]⟩) s := rfl
def lcN (vs : List Nat) (acc : List D) (s : Sl) : R EV := .ok (.val (.lst true acc)) (wipeS s vs)
def lc0 (tt : D → Sl → Option Sl) (vs : List Nat) (c : Sl → R Bool) (f : Sl → R EV) (ds : List D) (s : Sl) : R EV := (lcL tt vs c f ds s []).bind (lcN vs)
theorem x_lcE {gi : Sl → R (List D)} {tt : D → Sl → Option Sl} {vs : List Nat} : lcE gi tt vs c f s = (gi s).bind (lc0 tt vs c f) := rfl
@[simp] theorem x_lc0 {tt : D → Sl → Option Sl} {vs : List Nat} : lc0 tt vs c f ds s = (lcL tt vs c f ds s []).bind (lcN vs) := rfl
@[simp] theorem x_lcN {vs : List Nat} : lcN vs ds s = .ok (.val (.lst true ds)) (wipeS s vs) := rfl
@[simp] theorem x_lcL0 {tt : D → Sl → Option Sl} {vs : List Nat} : lcL tt vs c f [] s xs = .ok xs s := rfl
def lc4 (tt : D → Sl → Option Sl) (vs : List Nat) (c : Sl → R Bool) (f : Sl → R EV) (ds acc : List D) (o : Option (D × Sl)) : R (List D) := match o with
  | some q => if fits (acc.length + 1) then lcL tt vs c f ds q.2 (acc ++ [q.1]) else .no
  | none => .no
def lc3 (tt : D → Sl → Option Sl) (vs : List Nat) (c : Sl → R Bool) (f : Sl → R EV) (ds acc : List D) (r : R EV) : R (List D) := match r with
  | .ok e s3 => lc4 tt vs c f ds acc (evV e s3)
  | _ => .no
def lc2 (tt : D → Sl → Option Sl) (vs : List Nat) (c : Sl → R Bool) (f : Sl → R EV) (ds acc : List D) (r : R Bool) : R (List D) := match r with
  | .ok true s2 => lc3 tt vs c f ds acc ((f s2).bind (penK okE))
  | .ok false s2 => lcL tt vs c f ds s2 acc
  | _ => .no
def lc1 (tt : D → Sl → Option Sl) (vs : List Nat) (c : Sl → R Bool) (f : Sl → R EV) (ds acc : List D) (o : Option Sl) : R (List D) := match o with
  | some s1 => lc2 tt vs c f ds acc (c s1)
  | none => .no
theorem x_lcL {tt : D → Sl → Option Sl} {vs : List Nat} {acc : List D} : lcL tt vs c f (d :: ds) s acc = lc1 tt vs c f ds acc (tt d (wipeS s vs)) := by
  conv => lhs; unfold lcL
  unfold lc1 lc2 lc3 lc4
  cases tt d (wipeS s vs) with
  | none => rfl
  | some s1 =>
    dsimp only
    cases c s1 with
    | ok b s2 =>
      cases b with
      | false => rfl
      | true =>
        have e : penE f (fun e s => R.ok e s) s2 = (f s2).bind (penK okE) := rfl
        simp only [e]
        cases (f s2).bind (penK okE) with
        | ok ev s3 =>
          dsimp only
          cases evV ev s3 with
          | none => rfl
          | some q => rfl
        | ex _ _ => rfl
        | no => rfl
    | ex _ _ => rfl
    | no => rfl
@[simp] theorem x_lc1 {tt : D → Sl → Option Sl} {vs : List Nat} {acc : List D} : lc1 tt vs c f ds acc (some s) = lc2 tt vs c f ds acc (c s) := rfl
@[simp] theorem x_lc2t {tt : D → Sl → Option Sl} {vs : List Nat} {acc : List D} : lc2 tt vs c f ds acc (.ok true s) = lc3 tt vs c f ds acc ((f s).bind (penK okE)) := rfl
@[simp] theorem x_lc2f {tt : D → Sl → Option Sl} {vs : List Nat} {acc : List D} : lc2 tt vs c f ds acc (.ok false s) = lcL tt vs c f ds s acc := rfl
@[simp] theorem x_lc3 {tt : D → Sl → Option Sl} {vs : List Nat} {acc : List D} : lc3 tt vs c f ds acc (.ok e s) = lc4 tt vs c f ds acc (evV e s) := rfl
@[simp] theorem x_lc4 {tt : D → Sl → Option Sl} {vs : List Nat} {acc : List D} {q : D × Sl} (h : acc.length < 16000000) : lc4 tt vs c f ds acc (some q) = lcL tt vs c f ds q.2 (acc ++ [q.1]) := if_pos (fits_of h)
@[simp] theorem x_yes : yesT s = .ok true s := rfl
@[simp] theorem x_wipe0 : wipeS s [] = s := rfl
@[simp] theorem x_wipe1 {v : Nat} {vs : List Nat} : wipeS s (v :: vs) = (wipeS s vs).set v none := rfl
@[simp] theorem x_tgT {is : List Nat} (h : (xs.all fun d => !d.own) = true) : tgT' is (.tup xs) s = tgNs is xs s := if_pos h
@[simp] theorem x_tgs0 : tgNs [] [] s = some s := rfl
def tg1 (is : List Nat) (ds : List D) (o : Option Sl) : Option Sl := match o with
  | some s => tgNs is ds s
  | none => none
@[simp] theorem x_tgs1 {is : List Nat} : tgNs (i :: is) (d :: ds) s = tg1 is ds (tgN i d s) := by
  show (tgN i d s).bind _ = _
  cases tgN i d s <;> rfl
@[simp] theorem x_tg1' {is : List Nat} : tg1 is ds (some s) = tgNs is ds s := rfl
/-! values -/
@[simp] theorem x_own1 : D.own .non = false := rfl
@[simp] theorem x_own2 {b : Bool} : D.own (.bl b) = false := rfl
@[simp] theorem x_own3 {n : Int} : D.own (.int n) = false := rfl
@[simp] theorem x_own4 {z : Str} : D.own (.str z) = false := rfl
@[simp] theorem x_own5 : D.own (.tup xs) = false := rfl
@[simp] theorem x_own6 {b : Bool} : D.own (.lst b xs) = b := rfl
@[simp] theorem x_own7 : D.own (.ro xs) = false := rfl
@[simp] theorem x_own8 {b : Bool} {ks : List Key} : D.own (.dct b ks xs) = b := rfl
@[simp] theorem x_own9 {b : Bool} {n : Nat} {ks : List Str} : D.own (.obj b n ks xs) = b := rfl
@[simp] theorem x_frz1 : D.frz .non = .non := rfl
@[simp] theorem x_frz2 {b : Bool} : D.frz (.bl b) = .bl b := rfl
@[simp] theorem x_frz3 {n : Int} : D.frz (.int n) = .int n := rfl
@[simp] theorem x_frz4 {z : Str} : D.frz (.str z) = .str z := rfl
@[simp] theorem x_frz5 : D.frz (.tup xs) = .tup xs := rfl
@[simp] theorem x_frz6 {b : Bool} : D.frz (.lst b xs) = .lst false xs := by simp only [D.frz]
@[simp] theorem x_frz7 : D.frz (.ro xs) = .ro xs := rfl
@[simp] theorem x_frz8 {b : Bool} {ks : List Key} : D.frz (.dct b ks xs) = .dct false ks xs := by simp only [D.frz]
@[simp] theorem x_frz9 {b : Bool} {n : Nat} {ks : List Str} : D.frz (.obj b n ks xs) = .obj false n ks (D.frzs xs) := by simp only [D.frz]
@[simp] theorem x_add1 {m n : Int} : binD .Add (.int m) (.int n) = some (.int (m + n)) := rfl
@[simp] theorem x_sub1 {m n : Int} : binD .Sub (.int m) (.int n) = some (.int (m - n)) := rfl
theorem mulOk_r {m n : Int} (h : -18446744073709551616 < n ∧ n < 18446744073709551616) : mulOk m n = true := by
  unfold mulOk
  rw [decide_eq_true (show -(2 ^ 64) < n from h.1), decide_eq_true (show n < 2 ^ 64 from h.2)]
  rfl
theorem mulOk_l {m n : Int} (h : -18446744073709551616 < m ∧ m < 18446744073709551616) : mulOk m n = true := by
  unfold mulOk
  rw [decide_eq_true (show -(2 ^ 64) < m from h.1), decide_eq_true (show m < 2 ^ 64 from h.2), Bool.and_self, Bool.or_true]
@[simp] theorem x_mul1 {m n : Int} (h : (-18446744073709551616 < n ∧ n < 18446744073709551616) ∨ (-18446744073709551616 < m ∧ m < 18446744073709551616)) : binD .Mult (.int m) (.int n) = some (.int (m * n)) := if_pos (h.elim mulOk_r mulOk_l)
@[simp] theorem x_mod1 {m n : Int} (h : 0 < n) : binD .Mod (.int m) (.int n) = some (.int (m % n)) := by
  show (if decide (0 < n) then some (D.int (m % n)) else none) = _
  rw [decide_eq_true h]
  rfl
@[simp] theorem x_div1 {m n : Int} (h : 0 < n) (h' : n < 1073741824) : binD .FloorDiv (.int m) (.int n) = some (.int (m / n)) := by
  show (if decide (0 < n) && decide (n < 1073741824) then some (D.int (m / n)) else none) = _
  rw [decide_eq_true h, decide_eq_true h']
  rfl
@[simp] theorem x_pow1 {m n : Int} (h : 0 ≤ n) (h2 : n ≤ 1000) (h3 : m.natAbs < 18446744073709551616) : binD .Pow (.int m) (.int n) = some (.int (m ^ n.toNat)) := by
  show (if decide (0 ≤ n) && decide (n ≤ 1000) && decide (m.natAbs < 2 ^ 64) then some (D.int (m ^ n.toNat)) else none) = _
  rw [decide_eq_true h, decide_eq_true h2, decide_eq_true (show m.natAbs < 2 ^ 64 from h3)]
  rfl
@[simp] theorem x_add2 {o1 o2 : Bool} {ys : List D} (h : xs.length + ys.length ≤ 16000000) : binD .Add (.lst o1 xs) (.lst o2 ys) = some (.lst true (xs ++ ys)) := if_pos (fits_of h)
@[simp] theorem x_add3 {ys : List D} (h : xs.length + ys.length ≤ 16000000) : binD .Add (.tup xs) (.tup ys) = some (.tup (xs ++ ys)) := if_pos (fits_of h)
def allStr : List D → Bool
  | [] => true
  | .str _ :: ds => allStr ds
  | _ => false
def anyStr (x : Str) : List D → Bool
  | [] => false
  | .str y :: ds => decide (y = x) || anyStr x ds
  | _ => false
@[simp] theorem x_all0 : allStr [] = true := by rw [allStr]
@[simp] theorem x_all1 {y : Str} : allStr (.str y :: ds) = allStr ds := by rw [allStr]
@[simp] theorem x_all2 : ∀ {ys : List Str}, allStr (ys.map .str) = true
  | [] => rfl
  | y :: ys => by rw [List.map_cons, x_all1]; exact x_all2
@[simp] theorem x_any0 {x : Str} : anyStr x [] = false := rfl
@[simp] theorem x_any1 {x y : Str} : anyStr x (.str y :: ds) = (decide (y = x) || anyStr x ds) := rfl
@[simp] theorem x_any2 {x : Str} : ∀ {ys : List Str}, anyStr x (ys.map .str) = decide (x ∈ ys)
  | [] => by simp
  | y :: ys => by
    rw [List.map_cons, x_any1, x_any2]
    by_cases h1 : y = x
    · simp [h1]
    · have h2 : ¬ x = y := fun e => h1 e.symm
      simp [h1, h2]
theorem inL_str {x : Str} : ∀ {ds : List D}, allStr ds = true → ds.all D.sc = true ∧ (ds.any fun y => eqS y (.str x)) = anyStr x ds
  | [], _ => ⟨rfl, rfl⟩
  | d :: ds, h => by
    cases d <;> first | cases h | skip
    rename_i y
    obtain ⟨h1, h2⟩ := inL_str (x := x) (ds := ds) h
    refine ⟨by rw [List.all_cons, h1]; rfl, ?_⟩
    rw [List.any_cons, h2, x_any1]
    rfl
theorem inL_str' {x : Str} (h : allStr ds = true) : inL (.str x) ds = some (anyStr x ds) := by
  obtain ⟨h1, h2⟩ := inL_str (x := x) h
  unfold inL
  rw [if_pos (by rw [h1]; rfl), h2]
@[simp] theorem x_in1 {x : Str} (h : allStr ds = true) : cmpB .In (.str x) (.tup ds) = some (anyStr x ds) := inL_str' h
@[simp] theorem x_in2 {x : Str} {b : Bool} (h : allStr ds = true) : cmpB .In (.str x) (.lst b ds) = some (anyStr x ds) := inL_str' h
@[simp] theorem x_nin1 {x : Str} (h : allStr ds = true) : cmpB .NotIn (.str x) (.tup ds) = some (!anyStr x ds) := congrArg (Option.map (!·)) (inL_str' h)
@[simp] theorem x_nin2 {x : Str} {b : Bool} (h : allStr ds = true) : cmpB .NotIn (.str x) (.lst b ds) = some (!anyStr x ds) := congrArg (Option.map (!·)) (inL_str' h)
@[simp] theorem x_lt {m n : Int} : cmpB .Lt (.int m) (.int n) = some (decide (m < n)) := rfl
@[simp] theorem x_le {m n : Int} : cmpB .LtE (.int m) (.int n) = some (decide (m ≤ n)) := rfl
@[simp] theorem x_gt {m n : Int} : cmpB .Gt (.int m) (.int n) = some (decide (n < m)) := rfl
@[simp] theorem x_ge {m n : Int} : cmpB .GtE (.int m) (.int n) = some (decide (n ≤ m)) := rfl
@[simp] theorem x_eq1 {m n : Int} : cmpB .Eq (.int m) (.int n) = some (decide (m = n)) := rfl
@[simp] theorem x_eq2 {m n : Str} : cmpB .Eq (.str m) (.str n) = some (decide (m = n)) := rfl
@[simp] theorem x_eq4 : cmpB .Eq .non .non = some true := by decide
@[simp] theorem x_eq3 {m n : Bool} : cmpB .Eq (.bl m) (.bl n) = some (decide (m = n)) := rfl
@[simp] theorem x_ne1 {m n : Int} : cmpB .NotEq (.int m) (.int n) = some (!decide (m = n)) := rfl
@[simp] theorem x_ne2 {m n : Str} : cmpB .NotEq (.str m) (.str n) = some (!decide (m = n)) := rfl
@[simp] theorem x_ne3 {m n : Bool} : cmpB .NotEq (.bl m) (.bl n) = some (!decide (m = n)) := rfl
@[simp] theorem x_ison {d : D} : D.isNon .non = true := rfl
@[simp] theorem x_is1 {n : Int} : D.isNon (.int n) = false := rfl
@[simp] theorem x_is2 {n : Str} : D.isNon (.str n) = false := rfl
@[simp] theorem x_is3 {n : Bool} : D.isNon (.bl n) = false := rfl
@[simp] theorem x_is4 : D.isNon (.tup xs) = false := rfl
@[simp] theorem x_is5 {n : Bool} : D.isNon (.lst n xs) = false := rfl
@[simp] theorem x_is {d : D} : cmpB .Is d .non = some d.isNon := rfl
@[simp] theorem x_isn {d : D} : cmpB .IsNot d .non = some (!d.isNon) := rfl
@[simp] theorem x_tru1' {b : Bool} : truD (.bl b) = some b := rfl
@[simp] theorem x_tru2 {n : Int} : truD (.int n) = some (n != 0) := rfl
@[simp] theorem x_tru3 : truD .non = some false := rfl
@[simp] theorem x_tru4 : truD (.tup xs) = some (!xs.isEmpty) := rfl
@[simp] theorem x_tru5 {b : Bool} : truD (.lst b xs) = some (!xs.isEmpty) := rfl
@[simp] theorem x_len1 {b : Bool} : BI.op .len [.lst b xs] = some (.int xs.length) := rfl
@[simp] theorem x_len2 : BI.op .len [.tup xs] = some (.int xs.length) := rfl
@[simp] theorem x_len3 : BI.op .len [.ro xs] = some (.int xs.length) := rfl
@[simp] theorem x_list1 {b : Bool} : BI.op .list [.lst b xs] = some (.lst true xs) := rfl
@[simp] theorem x_list2 : BI.op .list [.ro xs] = some (.lst true xs) := rfl
@[simp] theorem x_list3 : BI.op .list [.tup xs] = some (.lst true xs) := rfl
@[simp] theorem x_tuple1 {b : Bool} : BI.op .tuple [.lst b xs] = some (.tup xs) := rfl
@[simp] theorem x_tuple2 : BI.op .tuple [.tup xs] = some (.tup xs) := rfl
@[simp] theorem x_int1 {n : Int} : BI.op .int [.int n] = some (.int n) := rfl
@[simp] theorem x_int2 {b : Bool} : BI.op .int [.bl b] = some (.int (if b then 1 else 0)) := rfl
end
end NS
namespace NS
open PySem PySem.Spec PyProof.Rows L2

/-! ## 18. loops by an invariant -/
theorem forL_inv {step : D → Sl → Fl} {I : Sl → Prop} : ∀ {ds : List D}, (∀ d ∈ ds, ∀ s, I s → ∃ s', step d s = .nx s' ∧ I s') → ∀ {s}, I s → ∃ s', forL step ds s = .nx s' ∧ I s'
  | [], _, s, hs => ⟨s, rfl, hs⟩
  | d :: ds, h, s, hs => by
    obtain ⟨s1, e1, h1⟩ := h d (by simp) s hs
    obtain ⟨s2, e2, h2⟩ := forL_inv (fun d' hd => h d' (List.mem_cons_of_mem _ hd)) h1
    exact ⟨s2, by rw [x_forL, e1, x_for1, e2], h2⟩
/-- it goes on, in such slots -/
def Fl.on (F : Fl) (I : Sl → Prop) : Prop := match F with
  | .nx s => I s
  | _ => False
@[simp] theorem x_on {s : Sl} {I : Sl → Prop} : (Fl.nx s).on I = I s := rfl
theorem Fl.on_nx {F : Fl} {I : Sl → Prop} (h : F.on I) : ∃ s, F = .nx s ∧ I s := by
  cases F with
  | nx s => exact ⟨s, rfl, h⟩
  | _ => exact h.elim
theorem forL_on {step : D → Sl → Fl} {I : Sl → Prop} {ds : List D} (h : ∀ d ∈ ds, ∀ s, I s → (step d s).on I) {s : Sl} (hs : I s) : ∃ s', forL step ds s = .nx s' ∧ I s' :=
  forL_inv (fun d hd s hs => Fl.on_nx (h d hd s hs)) hs
theorem mem_upto {lo : Int} {n : Nat} {d : D} (h : d ∈ upto lo n) : ∃ j : Nat, j < n ∧ d = .int (lo + j) := by
  unfold upto at h
  obtain ⟨j, hj, rfl⟩ := List.mem_map.mp h
  exact ⟨j, List.mem_range.mp hj, rfl⟩
/-! ## 19. the pool of numbers -/
def drawA : Sl → Fl := (ifS (andT (cmpT .LtE (bin2 (nameE 0) (constE (.int 2)) ixK) (constE (.int 0))) (andT (cmpT .LtE (bin2 (nameE 0) (constE (.int 4)) ixK) (constE (.int 0))) (cmpT .Lt (bin2 (nameE 0) (constE (.int 1)) ixK) (bltE (BI.op .len) [(bin2 (nameE 0) (constE (.int 0)) ixK)])))) (seqS (setS 2 (bin2 (bin2 (nameE 0) (constE (.int 0)) ixK) (bin2 (nameE 0) (constE (.int 1)) ixK) ixK))
  (seqS (stoS 0 (constE (.int 1)) (bin2 (bin2 (nameE 0) (constE (.int 1)) ixK) (constE (.int 1)) (op2K (binD .Add))))
  (seqS (stoS 0 (constE (.int 3)) (bin2 (bltE (BI.op .int) [(bin2 (bin2 (bin2 (nameE 0) (constE (.int 3)) ixK) (constE (.int 31)) (op2K (binD .Mult))) (nameE 2) (op2K (binD .Add)))]) (constE (.int 2147483647)) (op2K (binD .Mod))))
  (seqS (stoS 0 (constE (.int 4)) (constE (.int 7)))
  (ifS (cmpT .GtE (nameE 2) (bin2 (constE (.int 10)) (constE (.int 18)) (op2K (binD .Pow)))) (stoS 0 (constE (.int 2)) (nameE 2)) nxS))))) nxS)
def drawB : Sl → Fl := (seqS (ifS (cmpT .Gt (bin2 (nameE 0) (constE (.int 2)) ixK) (constE (.int 0))) (seqS (setS 3 (bin2 (bltE (BI.op .int) [(bin2 (nameE 0) (constE (.int 2)) ixK)]) (nameE 1) (op2K (binD .Mod))))
  (seqS (stoS 0 (constE (.int 2)) (bin2 (bin2 (nameE 0) (constE (.int 2)) ixK) (nameE 1) (op2K (binD .FloorDiv))))
  (seqS (stoS 0 (constE (.int 4)) (constE (.int 0)))
  (retS (nameE 3))))) nxS)
  (seqS (stoS 0 (constE (.int 4)) (bin2 (bin2 (nameE 0) (constE (.int 4)) ixK) (constE (.int 1)) (op2K (binD .Sub))))
  (seqS (stoS 0 (constE (.int 3)) (bin2 (bltE (BI.op .int) [(bin2 (bin2 (bin2 (nameE 0) (constE (.int 3)) ixK) (constE (.int 48271)) (op2K (binD .Mult))) (constE (.int 12345)) (op2K (binD .Add)))]) (constE (.int 2147483647)) (op2K (binD .Mod))))
  (retS (bin2 (bin2 (bltE (BI.op .int) [(bin2 (bin2 (bin2 (nameE 0) (constE (.int 3)) ixK) (constE (.int 69621)) (op2K (binD .Mult))) (constE (.int 7919)) (op2K (binD .Add)))]) (constE (.int 2147483647)) (op2K (binD .Mod))) (nameE 1) (op2K (binD .Mod)))))))
def mDraw : Sl → Fl := seqS drawA drawB
structure Pool where
  cells : List Int
  i : Nat
  big : Int
  seed : Int
  left : Int
  bud : Int
def Pool.d (p : Pool) : D := .lst true [.lst false (p.cells.map .int), .int p.i, .int p.big, .int p.seed, .int p.left, .int p.bud]
theorem x_atNat {xs : List D} {i : Nat} {d : D} (h : xs[i]? = some d) : L2.atI xs (i : Int) = some d := by
  have hl := (List.getElem?_eq_some_iff.mp h).1
  have e : ixN xs.length (i : Int) = some i := by
    unfold ixN
    simp only [Int.natCast_nonneg]
    first
      | simp [hl]
      | (split <;> simp_all <;> omega)
  show (ixN xs.length (i : Int)).bind (fun j => xs[j]?) = some d
  rw [e]
  exact h
theorem x_drawA {p : Pool} {n : Int} {o1 o2 : Option D} (hA : ¬ (p.big ≤ 0 ∧ p.left ≤ 0 ∧ p.i < p.cells.length)) : drawA [some p.d, some (.int n), o1, o2] = .nx [some p.d, some (.int n), o1, o2] := by
  by_cases h1 : p.big ≤ 0
  · by_cases h2 : p.left ≤ 0
    · have h3 : ¬ p.i < p.cells.length := fun z => hA ⟨h1, h2, z⟩
      simp [drawA, Pool.d, L2.atI, ixD, ixN, h1, h2, h3]
    · simp [drawA, Pool.d, L2.atI, ixD, ixN, h1, h2]
  · simp [drawA, Pool.d, L2.atI, ixD, ixN, h1]
theorem x_drawA2 {p : Pool} {n : Int} {o1 o2 : Option D} (hA : p.big ≤ 0 ∧ p.left ≤ 0 ∧ p.i < p.cells.length) : ∃ q : Pool, ∃ o3, drawA [some p.d, some (.int n), o1, o2] = .nx [some q.d, some (.int n), o3, o2] ∧ q.bud = p.bud := by
  obtain ⟨h1, h2, h3⟩ := hA
  have hc : (p.cells.map D.int)[p.i]? = some (.int p.cells[p.i]) := by
    rw [List.getElem?_map, List.getElem?_eq_getElem h3]
    rfl
  have hc2 : ixD (.lst false (p.cells.map D.int)) (.int p.i) = some (.int p.cells[p.i]) := x_atNat hc
  by_cases h4 : (1000000000000000000 : Int) ≤ p.cells[p.i]
  · refine ⟨{ p with i := p.i + 1, seed := (p.seed * 31 + p.cells[p.i]) % 2147483647, left := 7, big := p.cells[p.i] }, some (.int p.cells[p.i]), ?_, rfl⟩
    have e1 : ∀ a b c d e f : D, ixD (.lst false [a, b, c, d, e, f]) (.int 0) = some a := fun _ _ _ _ _ _ => rfl
    have e2 : ∀ a b c d e f : D, ixD (.lst false [a, b, c, d, e, f]) (.int 1) = some b := fun _ _ _ _ _ _ => rfl
    have e3 : ∀ a b c d e f : D, ixD (.lst false [a, b, c, d, e, f]) (.int 2) = some c := fun _ _ _ _ _ _ => rfl
    have e4 : ∀ a b c d e f : D, ixD (.lst false [a, b, c, d, e, f]) (.int 3) = some d := fun _ _ _ _ _ _ => rfl
    have e5 : ∀ a b c d e f : D, ixD (.lst false [a, b, c, d, e, f]) (.int 4) = some e := fun _ _ _ _ _ _ => rfl
    simp [drawA, Pool.d, ixN, h1, h2, h3, h4, hc2, e1, e2, e3, e4, e5]
  · refine ⟨{ p with i := p.i + 1, seed := (p.seed * 31 + p.cells[p.i]) % 2147483647, left := 7 }, some (.int p.cells[p.i]), ?_, rfl⟩
    have e1 : ∀ a b c d e f : D, ixD (.lst false [a, b, c, d, e, f]) (.int 0) = some a := fun _ _ _ _ _ _ => rfl
    have e2 : ∀ a b c d e f : D, ixD (.lst false [a, b, c, d, e, f]) (.int 1) = some b := fun _ _ _ _ _ _ => rfl
    have e3 : ∀ a b c d e f : D, ixD (.lst false [a, b, c, d, e, f]) (.int 2) = some c := fun _ _ _ _ _ _ => rfl
    have e4 : ∀ a b c d e f : D, ixD (.lst false [a, b, c, d, e, f]) (.int 3) = some d := fun _ _ _ _ _ _ => rfl
    have e5 : ∀ a b c d e f : D, ixD (.lst false [a, b, c, d, e, f]) (.int 4) = some e := fun _ _ _ _ _ _ => rfl
    simp [drawA, Pool.d, ixN, h1, h2, h3, h4, hc2, e1, e2, e3, e4, e5]
theorem x_drawB (p : Pool) (n : Int) (h0 : 0 < n) (h1 : n < 1073741824) (o1 o2 : Option D) :
    ∃ r q, calK [true, true] (drawB [some p.d, some (.int n), o1, o2]) = .ok (.int r) [some (Pool.d q), some (.int n)] ∧ 0 ≤ r ∧ r < n ∧ q.bud = p.bud := by
  by_cases hb : 0 < p.big
  · refine ⟨p.big % n, { p with big := p.big / n, left := 0 }, ?_, Int.emod_nonneg _ (by omega), Int.emod_lt_of_pos _ h0, rfl⟩
    simp [drawB, Pool.d, L2.atI, ixD, hb, ixN, h0, h1]
  · refine ⟨(((p.seed * 48271 + 12345) % 2147483647 * 69621 + 7919) % 2147483647) % n, { p with left := p.left - 1, seed := (p.seed * 48271 + 12345) % 2147483647 }, ?_, Int.emod_nonneg _ (by omega), Int.emod_lt_of_pos _ h0, rfl⟩
    simp [drawB, Pool.d, L2.atI, ixD, hb, ixN, h0, h1]
theorem draw_spec (p : Pool) (n : Int) (h0 : 0 < n) (h1 : n < 1073741824) : ∃ r q, calOf mDraw 4 [true, true] [p.d, .int n] = .ok (.int r) [some (Pool.d q), some (.int n)] ∧ 0 ≤ r ∧ r < n ∧ q.bud = p.bud := by
  have e : calOf mDraw 4 [true, true] [p.d, .int n] = calK [true, true] ((drawA [some p.d, some (.int n), none, none]).seq drawB) := rfl
  rw [e]
  by_cases hA : p.big ≤ 0 ∧ p.left ≤ 0 ∧ p.i < p.cells.length
  · obtain ⟨q, o3, e1, e2⟩ := x_drawA2 (n := n) (o1 := none) (o2 := none) hA
    rw [e1]
    obtain ⟨r, q2, e3, h3, h4, h5⟩ := x_drawB q n h0 h1 o3 none
    exact ⟨r, q2, e3, h3, h4, h5.trans e2⟩
  · rw [x_drawA hA]
    exact x_drawB p n h0 h1 none none
/-- a draw's number, the pool behind it -/
noncomputable def Pool.val (p : Pool) (n : Int) : Int := if h : 0 < n ∧ n < 1073741824 then (draw_spec p n h.1 h.2).choose else 0
noncomputable def Pool.nxt (p : Pool) (n : Int) : Pool := if h : 0 < n ∧ n < 1073741824 then (draw_spec p n h.1 h.2).choose_spec.choose else p
theorem draw_eq (p : Pool) (n : Int) (h0 : 0 < n) (h1 : n < 1073741824) : calOf mDraw 4 [true, true] [p.d, .int n] = .ok (.int (p.val n)) [some (p.nxt n).d, some (.int n)] := by
  unfold Pool.val Pool.nxt
  rw [dif_pos ⟨h0, h1⟩, dif_pos ⟨h0, h1⟩]
  exact (draw_spec p n h0 h1).choose_spec.choose_spec.1
theorem Pool.val_nn (p : Pool) (n : Int) (h0 : 0 < n) (h1 : n < 1073741824) : 0 ≤ p.val n := by
  unfold Pool.val
  rw [dif_pos ⟨h0, h1⟩]
  exact (draw_spec p n h0 h1).choose_spec.choose_spec.2.1
theorem Pool.val_lt (p : Pool) (n : Int) (h0 : 0 < n) (h1 : n < 1073741824) : p.val n < n := by
  unfold Pool.val
  rw [dif_pos ⟨h0, h1⟩]
  exact (draw_spec p n h0 h1).choose_spec.choose_spec.2.2.1
@[simp] theorem Pool.nxt_bud (p : Pool) (n : Int) : (p.nxt n).bud = p.bud := by
  unfold Pool.nxt
  split
  · rename_i h
    exact (draw_spec p n h.1 h.2).choose_spec.choose_spec.2.2.2
  · rfl
@[simp] theorem Pool.d_own (p : Pool) : p.d.own = true := rfl
end NS
namespace NS
open PySem PySem.Spec PyProof.Rows L2
/-- parts(term, kind, names, name, bound, constructor, body) -/
def M_parts_e0 : Sl → R EV :=
  (tupE (valsE [(nameE 6), (nameE 2)]))
def M_parts_e1 : Sl → R EV :=
  (tupE (valsE [(nameE 4), (nameE 2)]))
def M_parts_e2 : Sl → R EV :=
  (nameE 3)
def M_parts : Sl → Fl :=
  (seqS (setS 1 (bin2 (nameE 0) (constE (.int 0)) ixK))
  (seqS (ifS (cmpT .Eq (nameE 1) (constE (.str "fun"))) (retS (lstE (valsE [(tupE (valsE [(bin2 (nameE 0) (constE (.int 2)) ixK), (tupE (valsE [(bin2 (nameE 0) (constE (.int 1)) ixK)]))]))]))) nxS)
  (seqS (ifS (orT (cmpT .Eq (nameE 1) (constE (.str "call"))) (orT (cmpT .Eq (nameE 1) (constE (.str "tick"))) (cmpT .Eq (nameE 1) (constE (.str "waste"))))) (retS (lstE (valsE [(tupE (valsE [(bin2 (nameE 0) (constE (.int 1)) ixK), (tupE (valsE []))]))]))) nxS)
  (seqS (ifS (cmpT .Eq (nameE 1) (constE (.str "let"))) (seqS (setS 2 (bltE (BI.op .tuple) [(lcE (plI (seqI (bin2 (nameE 0) (constE (.int 1)) ixK))) (tgT' [3, 4]) [3, 4] yesT (M_parts_e2))]))
  (retS (bin2 (lcE (plI (seqI (bin2 (nameE 0) (constE (.int 1)) ixK))) (tgT' [3, 4]) [3, 4] yesT (M_parts_e1)) (lstE (valsE [(tupE (valsE [(bin2 (nameE 0) (constE (.int 2)) ixK), (nameE 2)]))])) (op2K (binD .Add))))) nxS)
  (seqS (ifS (cmpT .Eq (nameE 1) (constE (.str "case"))) (retS (bin2 (lstE (valsE [(tupE (valsE [(bin2 (nameE 0) (constE (.int 1)) ixK), (tupE (valsE []))]))])) (lcE (plI (seqI (bin2 (nameE 0) (constE (.int 2)) ixK))) (tgT' [5, 2, 6]) [5, 2, 6] yesT (M_parts_e0)) (op2K (binD .Add)))) nxS)
  (seqS (ifS (cmpT .Eq (nameE 1) (constE (.str "ifzero"))) (retS (lstE (valsE [(tupE (valsE [(bin2 (nameE 0) (constE (.int 1)) ixK), (tupE (valsE []))])), (tupE (valsE [(bin2 (nameE 0) (constE (.int 2)) ixK), (tupE (valsE []))])), (tupE (valsE [(bin2 (nameE 0) (constE (.int 3)) ixK), (tupE (valsE []))]))]))) nxS)
  (seqS (ifS (cmpT .In (nameE 1) (constE (.tup [.str "+", .str "-", .str "*", .str "/", .str "<", .str "="]))) (retS (lstE (valsE [(tupE (valsE [(bin2 (nameE 0) (constE (.int 1)) ixK), (tupE (valsE []))])), (tupE (valsE [(bin2 (nameE 0) (constE (.int 2)) ixK), (tupE (valsE []))]))]))) nxS)
  (retS (lstE (valsE []))))))))))
/-- rebuilt(term, found, kind, rows, row, part, pair) -/
def M_rebuilt_e0 : Sl → R EV :=
  (tupE (valsE [(bin2 (nameE 4) (constE (.int 0)) ixK), (bin2 (nameE 4) (constE (.int 1)) ixK), (nameE 5)]))
def M_rebuilt_e1 : Sl → R EV :=
  (tupE (valsE [(bin2 (nameE 6) (constE (.int 0)) ixK), (nameE 5)]))
def M_rebuilt : Sl → Fl :=
  (seqS (setS 2 (bin2 (nameE 0) (constE (.int 0)) ixK))
  (seqS (ifS (cmpT .Eq (nameE 2) (constE (.str "fun"))) (retS (tupE (valsE [(constE (.str "fun")), (bin2 (nameE 0) (constE (.int 1)) ixK), (bin2 (nameE 1) (constE (.int 0)) ixK)]))) nxS)
  (seqS (ifS (cmpT .Eq (nameE 2) (constE (.str "call"))) (retS (tupE (valsE [(constE (.str "call")), (bin2 (nameE 1) (constE (.int 0)) ixK), (bin2 (nameE 0) (constE (.int 2)) ixK)]))) nxS)
  (seqS (ifS (cmpT .Eq (nameE 2) (constE (.str "let"))) (retS (tupE (valsE [(constE (.str "let")), (bltE (BI.op .tuple) [(lcE (zipI (bin2 (nameE 0) (constE (.int 1)) ixK) (nameE 1)) (tgT' [6, 5]) [6, 5] yesT (M_rebuilt_e1))]), (bin2 (nameE 1) (penE (constE (.int 1)) (op1K negD)) ixK)]))) nxS)
  (seqS (ifS (cmpT .Eq (nameE 2) (constE (.str "case"))) (seqS (setS 3 (lcE (zipI (bin2 (nameE 0) (constE (.int 2)) ixK) (slE (nameE 1) (some (constE (.int 1))) none)) (tgT' [4, 5]) [4, 5] yesT (M_rebuilt_e0)))
  (retS (tupE (valsE [(constE (.str "case")), (bin2 (nameE 1) (constE (.int 0)) ixK), (bltE (BI.op .tuple) [(nameE 3)])])))) nxS)
  (seqS (ifS (orT (cmpT .In (nameE 2) (tupE (valsE [(constE (.str "tick")), (constE (.str "waste")), (constE (.str "ifzero"))]))) (cmpT .In (nameE 2) (constE (.tup [.str "+", .str "-", .str "*", .str "/", .str "<", .str "="])))) (retS (tupE (valsX [(false, (nameE 2)), (true, (nameE 1))]))) nxS)
  (retS (nameE 0))))))))
/-- size(term, part, names) -/
def M_size_e0 (c_parts c_size : List D → CR) : Sl → R EV :=
  (callE c_size [true] [(nameE 1)])
def M_size (c_parts c_size : List D → CR) : Sl → Fl :=
  (retS (bin2 (constE (.int 1)) (bltE (BI.op .sum) [(lcE (plI (seqI (callE c_parts [true] [(nameE 0)]))) (tgT' [1, 2]) [1, 2] yesT (M_size_e0 c_parts c_size))]) (op2K (binD .Add))))
/-- depth(term, part, names) -/
def M_depth_e0 (c_parts c_depth : List D → CR) : Sl → R EV :=
  (callE c_depth [true] [(nameE 1)])
def M_depth (c_parts c_depth : List D → CR) : Sl → Fl :=
  (retS (bin2 (constE (.int 1)) (bltE (BI.op .max) [(bin2 (lstE (valsE [(constE (.int 0))])) (lcE (plI (seqI (callE c_parts [true] [(nameE 0)]))) (tgT' [1, 2]) [1, 2] yesT (M_depth_e0 c_parts c_depth)) (op2K (binD .Add)))]) (op2K (binD .Add))))
/-- part_at(term, path, index, found) -/
def M_part_at_f0 (c_parts : List D → CR) : Sl → Fl :=
  (seqS (setS 3 (callE c_parts [true] [(nameE 0)]))
  (seqS (ifS (notT (chainT .LtE .Lt (constE (.int 0)) (nameE 2) (bltE (BI.op .len) [(nameE 3)]))) (retS (constE .non)) nxS)
  (setS 0 (bin2 (bin2 (nameE 3) (nameE 2) ixK) (constE (.int 0)) ixK))))
def M_part_at (c_parts : List D → CR) : Sl → Fl :=
  (seqS (forS (plI (seqI (nameE 1))) (tgN 2) (M_part_at_f0 c_parts))
  (retS (nameE 0)))
/-- put_at(term, path, other, found, part, names) -/
def M_put_at_e0 (c_rebuilt c_put_at c_parts : List D → CR) : Sl → R EV :=
  (nameE 4)
def M_put_at (c_rebuilt c_put_at c_parts : List D → CR) : Sl → Fl :=
  (seqS (ifS (notT (truT (nameE 1))) (retS (nameE 2)) nxS)
  (seqS (setS 3 (lcE (plI (seqI (callE c_parts [true] [(nameE 0)]))) (tgT' [4, 5]) [4, 5] yesT (M_put_at_e0 c_rebuilt c_put_at c_parts)))
  (seqS (stoS 3 (bin2 (nameE 1) (constE (.int 0)) ixK) (callE c_put_at [true, true, true] [(bin2 (nameE 3) (bin2 (nameE 1) (constE (.int 0)) ixK) ixK), (slE (nameE 1) (some (constE (.int 1))) none), (nameE 2)]))
  (retS (callE c_rebuilt [true, true] [(nameE 0), (nameE 3)])))))
/-- places(term, found, index, pair, path) -/
def M_places_e0 (c_parts c_places : List D → CR) : Sl → R EV :=
  (tupE (valsX [(false, (nameE 2)), (true, (nameE 4))]))
def M_places_f1 (c_parts c_places : List D → CR) : Sl → Fl :=
  (exprS (extE 1 (lcE (plI (seqI (callE c_places [true] [(bin2 (nameE 3) (constE (.int 0)) ixK)]))) (tgN 4) [4] yesT (M_places_e0 c_parts c_places))))
def M_places (c_parts c_places : List D → CR) : Sl → Fl :=
  (seqS (setS 1 (lstE (valsE [(tupE (valsE []))])))
  (seqS (forS (enumI (callE c_parts [true] [(nameE 0)])) (tgT' [2, 3]) (M_places_f1 c_parts c_places))
  (retS (nameE 1))))
/-- _law_pool(_law_script, _law_budget) -/
def M_law_pool : Sl → Fl :=
  (retS (lstE (valsE [(bltE (BI.op .list) [(nameE 0)]), (constE (.int 0)), (constE (.int 0)), (constE (.int 1)), (constE (.int 0)), (nameE 1)])))
/-- _law_draw(_law_pool_here, _law_size, _law_cell, _law_value) -/
def M_law_draw : Sl → Fl :=
  (seqS (ifS (andT (cmpT .LtE (bin2 (nameE 0) (constE (.int 2)) ixK) (constE (.int 0))) (andT (cmpT .LtE (bin2 (nameE 0) (constE (.int 4)) ixK) (constE (.int 0))) (cmpT .Lt (bin2 (nameE 0) (constE (.int 1)) ixK) (bltE (BI.op .len) [(bin2 (nameE 0) (constE (.int 0)) ixK)])))) (seqS (setS 2 (bin2 (bin2 (nameE 0) (constE (.int 0)) ixK) (bin2 (nameE 0) (constE (.int 1)) ixK) ixK))
  (seqS (stoS 0 (constE (.int 1)) (bin2 (bin2 (nameE 0) (constE (.int 1)) ixK) (constE (.int 1)) (op2K (binD .Add))))
  (seqS (stoS 0 (constE (.int 3)) (bin2 (bltE (BI.op .int) [(bin2 (bin2 (bin2 (nameE 0) (constE (.int 3)) ixK) (constE (.int 31)) (op2K (binD .Mult))) (nameE 2) (op2K (binD .Add)))]) (constE (.int 2147483647)) (op2K (binD .Mod))))
  (seqS (stoS 0 (constE (.int 4)) (constE (.int 7)))
  (ifS (cmpT .GtE (nameE 2) (bin2 (constE (.int 10)) (constE (.int 18)) (op2K (binD .Pow)))) (stoS 0 (constE (.int 2)) (nameE 2)) nxS))))) nxS)
  (seqS (ifS (cmpT .Gt (bin2 (nameE 0) (constE (.int 2)) ixK) (constE (.int 0))) (seqS (setS 3 (bin2 (bltE (BI.op .int) [(bin2 (nameE 0) (constE (.int 2)) ixK)]) (nameE 1) (op2K (binD .Mod))))
  (seqS (stoS 0 (constE (.int 2)) (bin2 (bin2 (nameE 0) (constE (.int 2)) ixK) (nameE 1) (op2K (binD .FloorDiv))))
  (seqS (stoS 0 (constE (.int 4)) (constE (.int 0)))
  (retS (nameE 3))))) nxS)
  (seqS (stoS 0 (constE (.int 4)) (bin2 (bin2 (nameE 0) (constE (.int 4)) ixK) (constE (.int 1)) (op2K (binD .Sub))))
  (seqS (stoS 0 (constE (.int 3)) (bin2 (bltE (BI.op .int) [(bin2 (bin2 (bin2 (nameE 0) (constE (.int 3)) ixK) (constE (.int 48271)) (op2K (binD .Mult))) (constE (.int 12345)) (op2K (binD .Add)))]) (constE (.int 2147483647)) (op2K (binD .Mod))))
  (retS (bin2 (bin2 (bltE (BI.op .int) [(bin2 (bin2 (bin2 (nameE 0) (constE (.int 3)) ixK) (constE (.int 69621)) (op2K (binD .Mult))) (constE (.int 7919)) (op2K (binD .Add)))]) (constE (.int 2147483647)) (op2K (binD .Mod))) (nameE 1) (op2K (binD .Mod))))))))
/-- _law_spend(_law_pool_here) -/
def M_law_spend : Sl → Fl :=
  (seqS (stoS 0 (constE (.int 5)) (bin2 (bin2 (nameE 0) (constE (.int 5)) ixK) (constE (.int 1)) (op2K (binD .Sub))))
  (retS (valB (cmpT .GtE (bin2 (nameE 0) (constE (.int 5)) ixK) (constE (.int 0))))))
/-- _law_few(_law_pool_here, _law_most, _law_few_here) -/
def M_law_few (c__law_draw : List D → CR) : Sl → Fl :=
  (seqS (setS 2 (callE c__law_draw [true, true] [(nameE 0), (constE (.int 4))]))
  (seqS (ifS (cmpT .Eq (nameE 2) (constE (.int 3))) (retS (callE c__law_draw [true, true] [(nameE 0), (bin2 (nameE 1) (constE (.int 1)) (op2K (binD .Add)))])) nxS)
  (retS (bltE (BI.op .min) [(nameE 2), (nameE 1)]))))
/-- _law_number(_law_pool_here) -/
def M_law_number (c__law_draw : List D → CR) : Sl → Fl :=
  (seqS (ifS (cmpT .Eq (callE c__law_draw [true, true] [(nameE 0), (constE (.int 3))]) (constE (.int 0))) (retS (callE c__law_draw [true, true] [(nameE 0), (constE (.int 65536))])) nxS)
  (retS (callE c__law_draw [true, true] [(nameE 0), (constE (.int 9))])))
/-- _law_same(_law_actual, _law_due, _law_k) -/
def M_law_same_f0 (c__law_same : List D → CR) : Sl → Fl :=
  (ifS (notT (truT (callE c__law_same [true, true] [(bin2 (nameE 0) (nameE 2) ixK), (bin2 (nameE 1) (nameE 2) ixK)]))) (retS (constE (.bl false))) nxS)
def M_law_same (c__law_same : List D → CR) : Sl → Fl :=
  (seqS (ifS (orT (truT (isiE .tuple (nameE 1))) (truT (isiE .list (nameE 1)))) (seqS (ifS (orT (cmpT .NotEq (isiE .tuple (nameE 1)) (isiE .tuple (nameE 0))) (cmpT .NotEq (isiE .list (nameE 1)) (isiE .list (nameE 0)))) (retS (constE (.bl false))) nxS)
  (seqS (ifS (cmpT .NotEq (bltE (BI.op .len) [(nameE 0)]) (bltE (BI.op .len) [(nameE 1)])) (retS (constE (.bl false))) nxS)
  (seqS (forS (rng1 (bltE (BI.op .len) [(nameE 1)])) (tgN 2) (M_law_same_f0 c__law_same))
  (retS (constE (.bl true)))))) nxS)
  (seqS (ifS (orT (cmpT .Is (nameE 1) (constE .non)) (truT (isiE .bool (nameE 1)))) (retS (andE (valB (cmpT .Eq (valB (cmpT .Is (nameE 0) (constE .non))) (valB (cmpT .Is (nameE 1) (constE .non))))) (andE (orE (valB (cmpT .Is (nameE 1) (constE .non))) (isiE .bool (nameE 0))) (valB (cmpT .Eq (nameE 0) (nameE 1)))))) nxS)
  (seqS (ifS (truT (isiE .int (nameE 1))) (retS (andE (isiE .int (nameE 0)) (andE (notE (isiE .bool (nameE 0))) (valB (cmpT .Eq (nameE 0) (nameE 1)))))) nxS)
  (retS (andE (isiE .str (nameE 0)) (valB (cmpT .Eq (nameE 0) (nameE 1))))))))
/-- _law_name(_law_pool_here, _law_name_here, _law_k) -/
def M_law_name_f0 (c__law_draw : List D → CR) : Sl → Fl :=
  (setS 1 (bin2 (nameE 1) (bin2 (constE (.str "abcdefghijklmnopqrstuvwxyz")) (callE c__law_draw [true, true] [(nameE 0), (constE (.int 26))]) ixK) (op2K (binD .Add))))
def M_law_name (c__law_draw : List D → CR) : Sl → Fl :=
  (seqS (ifS (cmpT .Gt (callE c__law_draw [true, true] [(nameE 0), (constE (.int 4))]) (constE (.int 0))) (retS (bin2 (constE (.str "abcdxyz")) (callE c__law_draw [true, true] [(nameE 0), (constE (.int 7))]) ixK)) nxS)
  (seqS (setS 1 (constE (.str "")))
  (seqS (forS (rng1 (bin2 (constE (.int 1)) (callE c__law_draw [true, true] [(nameE 0), (constE (.int 6))]) (op2K (binD .Add)))) (tgN 2) (M_law_name_f0 c__law_draw))
  (seqS (ifS (cmpT .In (nameE 1) (tupE (valsE [(constE (.str "fun")), (constE (.str "call")), (constE (.str "let")), (constE (.str "in")), (constE (.str "make")), (constE (.str "case")), (constE (.str "of")), (constE (.str "end")), (constE (.str "ifzero")), (constE (.str "tick")), (constE (.str "waste")), (constE (.str "hole"))]))) (retS (constE (.str "q"))) nxS)
  (retS (nameE 1))))))
/-- _law_unlike(_law_pool_here, _law_count, _law_names, _law_k, _law_name_here, _law_other) -/
def M_law_unlike_f0 (c__law_name : List D → CR) : Sl → Fl :=
  (ifS (cmpT .In (nameE 4) (nameE 2)) (setS 4 (nameE 5)) nxS)
def M_law_unlike_f1 (c__law_name : List D → CR) : Sl → Fl :=
  (seqS (setS 4 (callE c__law_name [true] [(nameE 0)]))
  (seqS (forS (plI (seqI (tupE (valsE [(constE (.str "mm")), (constE (.str "nn")), (constE (.str "oo")), (constE (.str "pp")), (constE (.str "qq"))])))) (tgN 5) (M_law_unlike_f0 c__law_name))
  (exprS (appE 2 (nameE 4)))))
def M_law_unlike (c__law_name : List D → CR) : Sl → Fl :=
  (seqS (setS 2 (lstE (valsE [])))
  (seqS (forS (rng1 (nameE 1)) (tgN 3) (M_law_unlike_f1 c__law_name))
  (retS (nameE 2))))
/-- _law_made(_law_pool_here, _law_name_here, _law_k) -/
def M_law_made_f0 (c__law_few c__law_draw : List D → CR) : Sl → Fl :=
  (setS 1 (bin2 (nameE 1) (bin2 (constE (.str "ABCDEFGHIJKLMNOPQRSTUVWXYZ")) (callE c__law_draw [true, true] [(nameE 0), (constE (.int 26))]) ixK) (op2K (binD .Add))))
def M_law_made (c__law_few c__law_draw : List D → CR) : Sl → Fl :=
  (seqS (setS 1 (constE (.str "")))
  (seqS (forS (rng1 (bin2 (constE (.int 1)) (callE c__law_few [true, true] [(nameE 0), (constE (.int 5))]) (op2K (binD .Add)))) (tgN 2) (M_law_made_f0 c__law_few c__law_draw))
  (retS (nameE 1))))
/-- _law_any(_law_pool_here, _law_deep, _law_way, _law_sign, _law_rows, _law_subject, _law_k, _law_names, _law_made_here, _law_name_here, _law_row) -/
def M_law_any_e0 (c__law_any c__law_draw c__law_made c__law_unlike c__law_name c__law_spend c__law_number : List D → CR) : Sl → R EV :=
  (bin2 (nameE 10) (constE (.int 0)) ixK)
def M_law_any_e1 (c__law_any c__law_draw c__law_made c__law_unlike c__law_name c__law_spend c__law_number : List D → CR) : Sl → R EV :=
  (bin2 (nameE 10) (constE (.int 0)) ixK)
def M_law_any_f2 (c__law_any c__law_draw c__law_made c__law_unlike c__law_name c__law_spend c__law_number : List D → CR) : Sl → Fl :=
  (seqS (setS 7 (bltE (BI.op .tuple) [(callE c__law_unlike [true, true] [(nameE 0), (callE c__law_draw [true, true] [(nameE 0), (constE (.int 5))])])]))
  (seqS (setS 8 (callE c__law_made [true] [(nameE 0)]))
  (seqS (ifS (cmpT .In (nameE 8) (lcO 4 (tgN 10) [10] yesT (M_law_any_e1 c__law_any c__law_draw c__law_made c__law_unlike c__law_name c__law_spend c__law_number))) (setS 8 (bin2 (constE (.str "ZZ")) (bin2 (constE (.str "WXYZ")) (nameE 6) ixK) (op2K (binD .Add)))) nxS)
  (ifS (cmpT .NotIn (nameE 8) (lcO 4 (tgN 10) [10] yesT (M_law_any_e0 c__law_any c__law_draw c__law_made c__law_unlike c__law_name c__law_spend c__law_number))) (exprS (appE 4 (tupE (valsE [(nameE 8), (nameE 7), (callE c__law_any [true, true] [(nameE 0), (bin2 (nameE 1) (constE (.int 1)) (op2K (binD .Sub)))])])))) nxS))))
def M_law_any_e3 (c__law_any c__law_draw c__law_made c__law_unlike c__law_name c__law_spend c__law_number : List D → CR) : Sl → R EV :=
  (tupE (valsE [(nameE 9), (callE c__law_any [true, true] [(nameE 0), (bin2 (nameE 1) (constE (.int 1)) (op2K (binD .Sub)))])]))
def M_law_any_e4 (c__law_any c__law_draw c__law_made c__law_unlike c__law_name c__law_spend c__law_number : List D → CR) : Sl → R EV :=
  (callE c__law_name [true] [(nameE 0)])
def M_law_any (c__law_any c__law_draw c__law_made c__law_unlike c__law_name c__law_spend c__law_number : List D → CR) : Sl → Fl :=
  (seqS (setS 2 (callE c__law_draw [true, true] [(nameE 0), (constE (.int 16))]))
  (seqS (ifS (orT (cmpT .Lt (nameE 1) (constE (.int 2))) (orT (cmpT .Lt (nameE 2) (constE (.int 4))) (notT (truT (callE c__law_spend [true] [(nameE 0)]))))) (seqS (ifS (cmpT .Eq (nameE 2) (constE (.int 0))) (retS (tupE (valsE [(constE (.str "make")), (callE c__law_made [true] [(nameE 0)]), (bltE (BI.op .tuple) [(lcE (rng1 (callE c__law_draw [true, true] [(nameE 0), (constE (.int 5))])) (tgN 6) [6] yesT (M_law_any_e4 c__law_any c__law_draw c__law_made c__law_unlike c__law_name c__law_spend c__law_number))])]))) nxS)
  (seqS (ifS (cmpT .Eq (nameE 2) (constE (.int 1))) (retS (tupE (valsE [(constE (.str "hole"))]))) nxS)
  (retS (bin2 (tupE (valsE [(tupE (valsE [(constE (.str "var")), (callE c__law_name [true] [(nameE 0)])])), (tupE (valsE [(constE (.str "number")), (callE c__law_number [true] [(nameE 0)])]))])) (callE c__law_draw [true, true] [(nameE 0), (constE (.int 2))]) ixK)))) nxS)
  (seqS (ifS (cmpT .Lt (nameE 2) (constE (.int 6))) (retS (tupE (valsE [(constE (.str "fun")), (callE c__law_name [true] [(nameE 0)]), (callE c__law_any [true, true] [(nameE 0), (bin2 (nameE 1) (constE (.int 1)) (op2K (binD .Sub)))])]))) nxS)
  (seqS (ifS (cmpT .Lt (nameE 2) (constE (.int 8))) (retS (tupE (valsE [(constE (.str "call")), (callE c__law_any [true, true] [(nameE 0), (bin2 (nameE 1) (constE (.int 1)) (op2K (binD .Sub)))]), (callE c__law_name [true] [(nameE 0)])]))) nxS)
  (seqS (ifS (cmpT .Lt (nameE 2) (constE (.int 10))) (seqS (setS 4 (lcE (plI (seqI (callE c__law_unlike [true, true] [(nameE 0), (bin2 (constE (.int 1)) (callE c__law_draw [true, true] [(nameE 0), (constE (.int 4))]) (op2K (binD .Add)))]))) (tgN 9) [9] yesT (M_law_any_e3 c__law_any c__law_draw c__law_made c__law_unlike c__law_name c__law_spend c__law_number)))
  (retS (tupE (valsE [(constE (.str "let")), (bltE (BI.op .tuple) [(nameE 4)]), (callE c__law_any [true, true] [(nameE 0), (bin2 (nameE 1) (constE (.int 1)) (op2K (binD .Sub)))])])))) nxS)
  (seqS (ifS (cmpT .Lt (nameE 2) (constE (.int 12))) (seqS (setS 4 (lstE (valsE [])))
  (seqS (setS 5 (callE c__law_any [true, true] [(nameE 0), (bin2 (nameE 1) (constE (.int 1)) (op2K (binD .Sub)))]))
  (seqS (forS (rng1 (bin2 (constE (.int 1)) (callE c__law_draw [true, true] [(nameE 0), (constE (.int 4))]) (op2K (binD .Add)))) (tgN 6) (M_law_any_f2 c__law_any c__law_draw c__law_made c__law_unlike c__law_name c__law_spend c__law_number))
  (retS (tupE (valsE [(constE (.str "case")), (nameE 5), (bltE (BI.op .tuple) [(nameE 4)])])))))) nxS)
  (seqS (ifS (cmpT .Eq (nameE 2) (constE (.int 12))) (retS (tupE (valsE [(bin2 (tupE (valsE [(constE (.str "tick")), (constE (.str "waste"))])) (callE c__law_draw [true, true] [(nameE 0), (constE (.int 2))]) ixK), (callE c__law_any [true, true] [(nameE 0), (bin2 (nameE 1) (constE (.int 1)) (op2K (binD .Sub)))])]))) nxS)
  (seqS (ifS (cmpT .Eq (nameE 2) (constE (.int 13))) (retS (tupE (valsE [(constE (.str "ifzero")), (callE c__law_any [true, true] [(nameE 0), (bin2 (nameE 1) (constE (.int 1)) (op2K (binD .Sub)))]), (callE c__law_any [true, true] [(nameE 0), (bin2 (nameE 1) (constE (.int 1)) (op2K (binD .Sub)))]), (callE c__law_any [true, true] [(nameE 0), (bin2 (nameE 1) (constE (.int 1)) (op2K (binD .Sub)))])]))) nxS)
  (seqS (setS 3 (bin2 (tupE (valsE [(constE (.str "+")), (constE (.str "-")), (constE (.str "*")), (constE (.str "/")), (constE (.str "<")), (constE (.str "="))])) (callE c__law_draw [true, true] [(nameE 0), (constE (.int 6))]) ixK))
  (retS (tupE (valsE [(nameE 3), (callE c__law_any [true, true] [(nameE 0), (bin2 (nameE 1) (constE (.int 1)) (op2K (binD .Sub)))]), (callE c__law_any [true, true] [(nameE 0), (bin2 (nameE 1) (constE (.int 1)) (op2K (binD .Sub)))])]))))))))))))
/-- _law_parts(_law_term, _law_kind, _law_names, _law_part_here, _law_row) -/
def M_law_parts_e0 : Sl → R EV :=
  (tupE (valsE [(nameE 3), (tupE (valsE []))]))
def M_law_parts_e1 : Sl → R EV :=
  (tupE (valsE [(bin2 (nameE 4) (constE (.int 2)) ixK), (bin2 (nameE 4) (constE (.int 1)) ixK)]))
def M_law_parts_e2 : Sl → R EV :=
  (tupE (valsE [(bin2 (nameE 4) (constE (.int 1)) ixK), (nameE 2)]))
def M_law_parts_e3 : Sl → R EV :=
  (bin2 (nameE 4) (constE (.int 0)) ixK)
def M_law_parts : Sl → Fl :=
  (seqS (setS 1 (bin2 (nameE 0) (constE (.int 0)) ixK))
  (seqS (ifS (cmpT .Eq (nameE 1) (constE (.str "fun"))) (retS (lstE (valsE [(tupE (valsE [(bin2 (nameE 0) (constE (.int 2)) ixK), (tupE (valsE [(bin2 (nameE 0) (constE (.int 1)) ixK)]))]))]))) nxS)
  (seqS (ifS (cmpT .In (nameE 1) (tupE (valsE [(constE (.str "call")), (constE (.str "tick")), (constE (.str "waste"))]))) (retS (lstE (valsE [(tupE (valsE [(bin2 (nameE 0) (constE (.int 1)) ixK), (tupE (valsE []))]))]))) nxS)
  (seqS (ifS (cmpT .Eq (nameE 1) (constE (.str "let"))) (seqS (setS 2 (bltE (BI.op .tuple) [(lcE (plI (seqI (bin2 (nameE 0) (constE (.int 1)) ixK))) (tgN 4) [4] yesT (M_law_parts_e3))]))
  (retS (bin2 (lcE (plI (seqI (bin2 (nameE 0) (constE (.int 1)) ixK))) (tgN 4) [4] yesT (M_law_parts_e2)) (lstE (valsE [(tupE (valsE [(bin2 (nameE 0) (constE (.int 2)) ixK), (nameE 2)]))])) (op2K (binD .Add))))) nxS)
  (seqS (ifS (cmpT .Eq (nameE 1) (constE (.str "case"))) (retS (bin2 (lstE (valsE [(tupE (valsE [(bin2 (nameE 0) (constE (.int 1)) ixK), (tupE (valsE []))]))])) (lcE (plI (seqI (bin2 (nameE 0) (constE (.int 2)) ixK))) (tgN 4) [4] yesT (M_law_parts_e1)) (op2K (binD .Add)))) nxS)
  (seqS (ifS (cmpT .In (nameE 1) (tupE (valsE [(constE (.str "ifzero")), (constE (.str "+")), (constE (.str "-")), (constE (.str "*")), (constE (.str "/")), (constE (.str "<")), (constE (.str "="))]))) (retS (lcE (plI (seqI (slE (nameE 0) (some (constE (.int 1))) none))) (tgN 3) [3] yesT (M_law_parts_e0))) nxS)
  (retS (lstE (valsE [])))))))))
/-- _law_places(_law_term, _law_found, _law_own, _law_k, _law_path) -/
def M_law_places_e0 (c__law_places c__law_parts : List D → CR) : Sl → R EV :=
  (bin2 (tupE (valsE [(nameE 3)])) (nameE 4) (op2K (binD .Add)))
def M_law_places_f1 (c__law_places c__law_parts : List D → CR) : Sl → Fl :=
  (setS 1 (bin2 (nameE 1) (lcE (plI (seqI (callE c__law_places [true] [(bin2 (bin2 (nameE 2) (nameE 3) ixK) (constE (.int 0)) ixK)]))) (tgN 4) [4] yesT (M_law_places_e0 c__law_places c__law_parts)) (op2K (binD .Add))))
def M_law_places (c__law_places c__law_parts : List D → CR) : Sl → Fl :=
  (seqS (setS 1 (lstE (valsE [(tupE (valsE []))])))
  (seqS (setS 2 (callE c__law_parts [true] [(nameE 0)]))
  (seqS (forS (rng1 (bltE (BI.op .len) [(nameE 2)])) (tgN 3) (M_law_places_f1 c__law_places c__law_parts))
  (retS (nameE 1)))))
/-- _law_part(_law_term, _law_path, _law_index, _law_own) -/
def M_law_part_f0 (c__law_parts : List D → CR) : Sl → Fl :=
  (seqS (setS 3 (callE c__law_parts [true] [(nameE 0)]))
  (seqS (ifS (notT (chainT .LtE .Lt (constE (.int 0)) (nameE 2) (bltE (BI.op .len) [(nameE 3)]))) (retS (constE .non)) nxS)
  (setS 0 (bin2 (bin2 (nameE 3) (nameE 2) ixK) (constE (.int 0)) ixK))))
def M_law_part (c__law_parts : List D → CR) : Sl → Fl :=
  (seqS (forS (plI (seqI (nameE 1))) (tgN 2) (M_law_part_f0 c__law_parts))
  (retS (nameE 0)))
/-- _law_put(_law_term, _law_path, _law_other, _law_own, _law_kind, _law_rows, _law_pair, _law_k) -/
def M_law_put_e0 (c__law_put c__law_parts : List D → CR) : Sl → R EV :=
  (tupE (valsE [(bin2 (bin2 (bin2 (nameE 0) (constE (.int 2)) ixK) (nameE 7) ixK) (constE (.int 0)) ixK), (bin2 (bin2 (bin2 (nameE 0) (constE (.int 2)) ixK) (nameE 7) ixK) (constE (.int 1)) ixK), (bin2 (nameE 3) (bin2 (nameE 7) (constE (.int 1)) (op2K (binD .Add))) ixK)]))
def M_law_put_e1 (c__law_put c__law_parts : List D → CR) : Sl → R EV :=
  (tupE (valsE [(bin2 (bin2 (bin2 (nameE 0) (constE (.int 1)) ixK) (nameE 7) ixK) (constE (.int 0)) ixK), (bin2 (nameE 3) (nameE 7) ixK)]))
def M_law_put_e2 (c__law_put c__law_parts : List D → CR) : Sl → R EV :=
  (bin2 (nameE 6) (constE (.int 0)) ixK)
def M_law_put (c__law_put c__law_parts : List D → CR) : Sl → Fl :=
  (seqS (ifS (cmpT .Eq (bltE (BI.op .len) [(nameE 1)]) (constE (.int 0))) (retS (nameE 2)) nxS)
  (seqS (setS 3 (lcE (plI (seqI (callE c__law_parts [true] [(nameE 0)]))) (tgN 6) [6] yesT (M_law_put_e2 c__law_put c__law_parts)))
  (seqS (stoS 3 (bin2 (nameE 1) (constE (.int 0)) ixK) (callE c__law_put [true, true, true] [(bin2 (nameE 3) (bin2 (nameE 1) (constE (.int 0)) ixK) ixK), (slE (nameE 1) (some (constE (.int 1))) none), (nameE 2)]))
  (seqS (setS 4 (bin2 (nameE 0) (constE (.int 0)) ixK))
  (seqS (ifS (cmpT .Eq (nameE 4) (constE (.str "fun"))) (retS (tupE (valsE [(constE (.str "fun")), (bin2 (nameE 0) (constE (.int 1)) ixK), (bin2 (nameE 3) (constE (.int 0)) ixK)]))) nxS)
  (seqS (ifS (cmpT .Eq (nameE 4) (constE (.str "call"))) (retS (tupE (valsE [(constE (.str "call")), (bin2 (nameE 3) (constE (.int 0)) ixK), (bin2 (nameE 0) (constE (.int 2)) ixK)]))) nxS)
  (seqS (ifS (cmpT .Eq (nameE 4) (constE (.str "let"))) (seqS (setS 5 (lcE (rng1 (bltE (BI.op .len) [(bin2 (nameE 0) (constE (.int 1)) ixK)])) (tgN 7) [7] yesT (M_law_put_e1 c__law_put c__law_parts)))
  (retS (tupE (valsE [(constE (.str "let")), (bltE (BI.op .tuple) [(nameE 5)]), (bin2 (nameE 3) (bin2 (bltE (BI.op .len) [(nameE 3)]) (constE (.int 1)) (op2K (binD .Sub))) ixK)])))) nxS)
  (seqS (ifS (cmpT .Eq (nameE 4) (constE (.str "case"))) (seqS (setS 5 (lcE (rng1 (bltE (BI.op .len) [(bin2 (nameE 0) (constE (.int 2)) ixK)])) (tgN 7) [7] yesT (M_law_put_e0 c__law_put c__law_parts)))
  (retS (tupE (valsE [(constE (.str "case")), (bin2 (nameE 3) (constE (.int 0)) ixK), (bltE (BI.op .tuple) [(nameE 5)])])))) nxS)
  (retS (bin2 (tupE (valsE [(nameE 4)])) (bltE (BI.op .tuple) [(nameE 3)]) (op2K (binD .Add))))))))))))
/-- law(_law_script, _law_pool_here, _law_term, _law_found, _law_turn, _law_k, _law_path, _law_part_here, _law_other, _law_at, _law_strange) -/
def M_law_k03_f0 (c__law_draw c__law_same c_part_at c__law_part c_put_at c__law_put c__law_any c_parts c__law_parts c_depth c_size c_places c__law_places c__law_pool : List D → CR) : Sl → Fl :=
  (ifS (notT (truT (callE c__law_same [true, true] [(callE c_part_at [false, true] [(nameE 2), (nameE 10)]), (callE c__law_part [false, true] [(nameE 2), (nameE 10)])]))) (retS (constE (.bl false))) nxS)
def M_law_k03_f1 (c__law_draw c__law_same c_part_at c__law_part c_put_at c__law_put c__law_any c_parts c__law_parts c_depth c_size c_places c__law_places c__law_pool : List D → CR) : Sl → Fl :=
  (seqS (setS 6 (bin2 (nameE 3) (callE c__law_draw [true, true] [(nameE 1), (bltE (BI.op .len) [(nameE 3)])]) ixK))
  (seqS (setS 7 (callE c__law_part [false, true] [(nameE 2), (nameE 6)]))
  (seqS (ifS (orT (notT (truT (callE c__law_same [true, true] [(callE c_part_at [false, true] [(nameE 2), (nameE 6)]), (nameE 7)]))) (notT (truT (callE c__law_same [true, true] [(callE c_parts [true] [(nameE 7)]), (callE c__law_parts [true] [(nameE 7)])])))) (retS (constE (.bl false))) nxS)
  (seqS (stoS 1 (constE (.int 5)) (constE (.int 5)))
  (seqS (setS 8 (callE c__law_any [true, true] [(nameE 1), (constE (.int 3))]))
  (seqS (ifS (notT (truT (callE c__law_same [true, true] [(callE c_put_at [true, true, true] [(nameE 2), (nameE 6), (nameE 8)]), (callE c__law_put [true, true, true] [(nameE 2), (nameE 6), (nameE 8)])]))) (retS (constE (.bl false))) nxS)
  (seqS (setS 9 (callE c__law_draw [true, true] [(nameE 1), (bin2 (bltE (BI.op .len) [(nameE 6)]) (constE (.int 1)) (op2K (binD .Add)))]))
  (forS (plI (seqI (tupE (valsE [(bin2 (nameE 6) (tupE (valsE [(bin2 (callE c__law_draw [true, true] [(nameE 1), (constE (.int 7))]) (constE (.int 1)) (op2K (binD .Sub)))])) (op2K (binD .Add))), (bin2 (bin2 (slE (nameE 6) none (some (nameE 9))) (tupE (valsE [(penE (constE (.int 1)) (op1K negD))])) (op2K (binD .Add))) (slE (nameE 6) (some (nameE 9)) none) (op2K (binD .Add))), (bin2 (bin2 (slE (nameE 6) none (some (nameE 9))) (tupE (valsE [(penE (constE (.int 1)) (op1K negD))])) (op2K (binD .Add))) (slE (nameE 6) (some (bin2 (nameE 9) (constE (.int 1)) (op2K (binD .Add)))) none) (op2K (binD .Add)))])))) (tgN 10) (M_law_k03_f0 c__law_draw c__law_same c_part_at c__law_part c_put_at c__law_put c__law_any c_parts c__law_parts c_depth c_size c_places c__law_places c__law_pool)))))))))
def M_law_k03_e2 (c__law_draw c__law_same c_part_at c__law_part c_put_at c__law_put c__law_any c_parts c__law_parts c_depth c_size c_places c__law_places c__law_pool : List D → CR) : Sl → R EV :=
  (bltE (BI.op .len) [(nameE 6)])
def M_law_k03_f3 (c__law_draw c__law_same c_part_at c__law_part c_put_at c__law_put c__law_any c_parts c__law_parts c_depth c_size c_places c__law_places c__law_pool : List D → CR) : Sl → Fl :=
  (setS 2 (tupE (valsE [(bin2 (tupE (valsE [(constE (.str "tick")), (constE (.str "waste"))])) (callE c__law_draw [true, true] [(nameE 1), (constE (.int 2))]) ixK), (nameE 2)])))
def M_law_k03 (c__law_draw c__law_same c_part_at c__law_part c_put_at c__law_put c__law_any c_parts c__law_parts c_depth c_size c_places c__law_places c__law_pool : List D → CR) : Sl → Fl :=
  (seqS (setS 1 (callE c__law_pool [true, true] [(nameE 0), (constE (.int 50))]))
  (seqS (setS 2 (callE c__law_any [true, true] [(nameE 1), (constE (.int 7))]))
  (seqS (ifS (cmpT .Eq (callE c__law_draw [true, true] [(nameE 1), (constE (.int 4))]) (constE (.int 0))) (forS (rng1 (callE c__law_draw [true, true] [(nameE 1), (constE (.int 91))])) (tgN 5) (M_law_k03_f3 c__law_draw c__law_same c_part_at c__law_part c_put_at c__law_put c__law_any c_parts c__law_parts c_depth c_size c_places c__law_places c__law_pool)) nxS)
  (seqS (setS 3 (callE c__law_places [true] [(nameE 2)]))
  (seqS (ifS (orT (notT (truT (callE c__law_same [true, true] [(callE c_places [true] [(nameE 2)]), (nameE 3)]))) (notT (truT (callE c__law_same [true, true] [(callE c_size [true] [(nameE 2)]), (bltE (BI.op .len) [(nameE 3)])])))) (retS (constE (.bl false))) nxS)
  (seqS (ifS (notT (truT (callE c__law_same [true, true] [(callE c_depth [true] [(nameE 2)]), (bin2 (constE (.int 1)) (bltE (BI.op .max) [(lcO 3 (tgN 6) [6] yesT (M_law_k03_e2 c__law_draw c__law_same c_part_at c__law_part c_put_at c__law_put c__law_any c_parts c__law_parts c_depth c_size c_places c__law_places c__law_pool))]) (op2K (binD .Add)))]))) (retS (constE (.bl false))) nxS)
  (seqS (forS (rng1 (constE (.int 3))) (tgN 4) (M_law_k03_f1 c__law_draw c__law_same c_part_at c__law_part c_put_at c__law_put c__law_any c_parts c__law_parts c_depth c_size c_places c__law_places c__law_pool))
  (retS (constE (.bl true))))))))))
/-- own_names(term) -/
def M_own_names : Sl → Fl :=
  (seqS (ifS (cmpT .Eq (bin2 (nameE 0) (constE (.int 0)) ixK) (constE (.str "var"))) (retS (tupE (valsE [(bin2 (nameE 0) (constE (.int 1)) ixK)]))) nxS)
  (seqS (ifS (cmpT .Eq (bin2 (nameE 0) (constE (.int 0)) ixK) (constE (.str "call"))) (retS (tupE (valsE [(bin2 (nameE 0) (constE (.int 2)) ixK)]))) nxS)
  (seqS (ifS (cmpT .Eq (bin2 (nameE 0) (constE (.int 0)) ixK) (constE (.str "make"))) (retS (bin2 (nameE 0) (constE (.int 2)) ixK)) nxS)
  (retS (tupE (valsE []))))))
/-- free_names(term, found, name, part, names) -/
def M_free_names_f0 (c_parts c_free_names c_own_names : List D → CR) : Sl → Fl :=
  (ifS (andT (cmpT .NotIn (nameE 2) (nameE 4)) (cmpT .NotIn (nameE 2) (nameE 1))) (exprS (appE 1 (nameE 2))) nxS)
def M_free_names_f1 (c_parts c_free_names c_own_names : List D → CR) : Sl → Fl :=
  (forS (plI (seqI (callE c_free_names [true] [(nameE 3)]))) (tgN 2) (M_free_names_f0 c_parts c_free_names c_own_names))
def M_free_names_f2 (c_parts c_free_names c_own_names : List D → CR) : Sl → Fl :=
  (ifS (cmpT .NotIn (nameE 2) (nameE 1)) (exprS (appE 1 (nameE 2))) nxS)
def M_free_names (c_parts c_free_names c_own_names : List D → CR) : Sl → Fl :=
  (seqS (setS 1 (lstE (valsE [])))
  (seqS (forS (plI (seqI (callE c_own_names [true] [(nameE 0)]))) (tgN 2) (M_free_names_f2 c_parts c_free_names c_own_names))
  (seqS (forS (plI (seqI (callE c_parts [true] [(nameE 0)]))) (tgT' [3, 4]) (M_free_names_f1 c_parts c_free_names c_own_names))
  (retS (nameE 1)))))
/-- captures(term, name, other, part, names) -/
def M_captures_f0 (c_parts c_captures c_free_names : List D → CR) : Sl → Fl :=
  (ifS (cmpT .NotIn (nameE 1) (nameE 4)) (seqS (ifS (andT (cmpT .In (nameE 2) (nameE 4)) (cmpT .In (nameE 1) (callE c_free_names [true] [(nameE 3)]))) (retS (constE (.bl true))) nxS)
  (ifS (truT (callE c_captures [true, true, true] [(nameE 3), (nameE 1), (nameE 2)])) (retS (constE (.bl true))) nxS)) nxS)
def M_captures (c_parts c_captures c_free_names : List D → CR) : Sl → Fl :=
  (seqS (forS (plI (seqI (callE c_parts [true] [(nameE 0)]))) (tgT' [3, 4]) (M_captures_f0 c_parts c_captures c_free_names))
  (retS (constE (.bl false))))
/-- _law_own(_law_term) -/
def M_law_own : Sl → Fl :=
  (seqS (ifS (cmpT .Eq (bin2 (nameE 0) (constE (.int 0)) ixK) (constE (.str "var"))) (retS (lstE (valsE [(bin2 (nameE 0) (constE (.int 1)) ixK)]))) nxS)
  (seqS (ifS (cmpT .Eq (bin2 (nameE 0) (constE (.int 0)) ixK) (constE (.str "call"))) (retS (lstE (valsE [(bin2 (nameE 0) (constE (.int 2)) ixK)]))) nxS)
  (seqS (ifS (cmpT .Eq (bin2 (nameE 0) (constE (.int 0)) ixK) (constE (.str "make"))) (retS (bltE (BI.op .list) [(bin2 (nameE 0) (constE (.int 2)) ixK)])) nxS)
  (retS (lstE (valsE []))))))
/-- _law_uses(_law_term, _law_found, _law_own_here, _law_k, _law_name_here, _law_path) -/
def M_law_uses_f0 (c__law_uses c__law_parts c__law_own : List D → CR) : Sl → Fl :=
  (ifS (cmpT .NotIn (nameE 4) (bin2 (bin2 (nameE 2) (nameE 3) ixK) (constE (.int 1)) ixK)) (exprS (appE 1 (tupE (valsE [(bin2 (tupE (valsE [(nameE 3)])) (nameE 5) (op2K (binD .Add))), (nameE 4)])))) nxS)
def M_law_uses_f1 (c__law_uses c__law_parts c__law_own : List D → CR) : Sl → Fl :=
  (forS (plI (seqI (callE c__law_uses [true] [(bin2 (bin2 (nameE 2) (nameE 3) ixK) (constE (.int 0)) ixK)]))) (tgT' [5, 4]) (M_law_uses_f0 c__law_uses c__law_parts c__law_own))
def M_law_uses_e2 (c__law_uses c__law_parts c__law_own : List D → CR) : Sl → R EV :=
  (tupE (valsE [(tupE (valsE [])), (nameE 4)]))
def M_law_uses (c__law_uses c__law_parts c__law_own : List D → CR) : Sl → Fl :=
  (seqS (setS 1 (lcE (plI (seqI (callE c__law_own [true] [(nameE 0)]))) (tgN 4) [4] yesT (M_law_uses_e2 c__law_uses c__law_parts c__law_own)))
  (seqS (setS 2 (callE c__law_parts [true] [(nameE 0)]))
  (seqS (forS (rng1 (bltE (BI.op .len) [(nameE 2)])) (tgN 3) (M_law_uses_f1 c__law_uses c__law_parts c__law_own))
  (retS (nameE 1)))))
/-- _law_free(_law_term, _law_path, _law_name_here) -/
def M_law_free_e0 (c__law_uses : List D → CR) : Sl → R EV :=
  (nameE 2)
def M_law_free (c__law_uses : List D → CR) : Sl → Fl :=
  (retS (lcE (plI (seqI (callE c__law_uses [true] [(nameE 0)]))) (tgT' [1, 2]) [1, 2] yesT (M_law_free_e0 c__law_uses)))
/-- _law_bound(_law_term, _law_path, _law_names, _law_index, _law_own_here) -/
def M_law_bound_f0 (c__law_parts : List D → CR) : Sl → Fl :=
  (seqS (setS 4 (bin2 (callE c__law_parts [true] [(nameE 0)]) (nameE 3) ixK))
  (seqS (setS 2 (bin2 (nameE 2) (bltE (BI.op .list) [(bin2 (nameE 4) (constE (.int 1)) ixK)]) (op2K (binD .Add))))
  (setS 0 (bin2 (nameE 4) (constE (.int 0)) ixK))))
def M_law_bound (c__law_parts : List D → CR) : Sl → Fl :=
  (seqS (setS 2 (lstE (valsE [])))
  (seqS (forS (plI (seqI (nameE 1))) (tgN 3) (M_law_bound_f0 c__law_parts))
  (retS (nameE 2))))
/-- law(_law_script, _law_pool_here, _law_term, _law_due, _law_actual, _law_k, _law_name_here, _law_uses_here, _law_menu, _law_turn, _law_path, _law_used, _law_other, _law_found) -/
def M_law_k04_f0 (c__law_same c_captures c__law_uses c__law_bound c__law_draw c_free_names c__law_free c__law_any c__law_pool : List D → CR) : Sl → Fl :=
  (ifS (andT (cmpT .Eq (nameE 11) (nameE 6)) (cmpT .In (nameE 12) (callE c__law_bound [false, true] [(nameE 2), (nameE 10)]))) (setS 13 (constE (.bl true))) nxS)
def M_law_k04_f1 (c__law_same c_captures c__law_uses c__law_bound c__law_draw c_free_names c__law_free c__law_any c__law_pool : List D → CR) : Sl → Fl :=
  (seqS (setS 6 (bin2 (nameE 8) (callE c__law_draw [true, true] [(nameE 1), (bltE (BI.op .len) [(nameE 8)])]) ixK))
  (seqS (setS 12 (bin2 (nameE 8) (callE c__law_draw [true, true] [(nameE 1), (bltE (BI.op .len) [(nameE 8)])]) ixK))
  (ifS (cmpT .NotEq (nameE 6) (nameE 12)) (seqS (setS 13 (constE (.bl false)))
  (seqS (forS (plI (seqI (callE c__law_uses [true] [(nameE 2)]))) (tgT' [10, 11]) (M_law_k04_f0 c__law_same c_captures c__law_uses c__law_bound c__law_draw c_free_names c__law_free c__law_any c__law_pool))
  (ifS (notT (truT (callE c__law_same [true, true] [(callE c_captures [true, true, true] [(nameE 2), (nameE 6), (nameE 12)]), (nameE 13)]))) (retS (constE (.bl false))) nxS))) nxS)))
def M_law_k04_f2 (c__law_same c_captures c__law_uses c__law_bound c__law_draw c_free_names c__law_free c__law_any c__law_pool : List D → CR) : Sl → Fl :=
  (setS 8 (bin2 (nameE 8) (bltE (BI.op .list) [(callE c__law_bound [false, true] [(nameE 2), (nameE 10)])]) (op2K (binD .Add))))
def M_law_k04_e3 (c__law_same c_captures c__law_uses c__law_bound c__law_draw c_free_names c__law_free c__law_any c__law_pool : List D → CR) : Sl → R EV :=
  (nameE 11)
def M_law_k04_f4 (c__law_same c_captures c__law_uses c__law_bound c__law_draw c_free_names c__law_free c__law_any c__law_pool : List D → CR) : Sl → Fl :=
  (ifS (cmpT .NotIn (nameE 6) (nameE 4)) (retS (constE (.bl false))) nxS)
def M_law_k04_f5 (c__law_same c_captures c__law_uses c__law_bound c__law_draw c_free_names c__law_free c__law_any c__law_pool : List D → CR) : Sl → Fl :=
  (ifS (orT (cmpT .In (bin2 (nameE 4) (nameE 5) ixK) (slE (nameE 4) none (some (nameE 5)))) (cmpT .NotIn (bin2 (nameE 4) (nameE 5) ixK) (nameE 3))) (retS (constE (.bl false))) nxS)
def M_law_k04 (c__law_same c_captures c__law_uses c__law_bound c__law_draw c_free_names c__law_free c__law_any c__law_pool : List D → CR) : Sl → Fl :=
  (seqS (setS 1 (callE c__law_pool [true, true] [(nameE 0), (constE (.int 50))]))
  (seqS (setS 2 (callE c__law_any [true, true] [(nameE 1), (constE (.int 7))]))
  (seqS (setS 3 (callE c__law_free [true] [(nameE 2)]))
  (seqS (setS 4 (callE c_free_names [true] [(nameE 2)]))
  (seqS (ifS (notT (truT (isiE .list (nameE 4)))) (retS (constE (.bl false))) nxS)
  (seqS (forS (rng1 (bltE (BI.op .len) [(nameE 4)])) (tgN 5) (M_law_k04_f5 c__law_same c_captures c__law_uses c__law_bound c__law_draw c_free_names c__law_free c__law_any c__law_pool))
  (seqS (forS (plI (seqI (nameE 3))) (tgN 6) (M_law_k04_f4 c__law_same c_captures c__law_uses c__law_bound c__law_draw c_free_names c__law_free c__law_any c__law_pool))
  (seqS (setS 7 (callE c__law_uses [true] [(nameE 2)]))
  (seqS (setS 8 (bin2 (bin2 (bltE (BI.op .list) [(constE (.str "abcdxyzq"))]) (lstE (valsE [(constE (.str "ab")), (constE (.str "abc"))])) (op2K (binD .Add))) (lcO 7 (tgT' [10, 11]) [10, 11] yesT (M_law_k04_e3 c__law_same c_captures c__law_uses c__law_bound c__law_draw c_free_names c__law_free c__law_any c__law_pool)) (op2K (binD .Add))))
  (seqS (forS (plI (seqI (slE (nameE 7) none (some (constE (.int 6)))))) (tgT' [10, 11]) (M_law_k04_f2 c__law_same c_captures c__law_uses c__law_bound c__law_draw c_free_names c__law_free c__law_any c__law_pool))
  (seqS (forS (rng1 (constE (.int 6))) (tgN 9) (M_law_k04_f1 c__law_same c_captures c__law_uses c__law_bound c__law_draw c_free_names c__law_free c__law_any c__law_pool))
  (retS (constE (.bl true))))))))))))))
end NS
namespace NS
open PySem PySem.Spec PyProof.Rows L2

/-! ## 20. comprehensions that map -/
section
variable {tt : D → Sl → Option Sl} {vs : List Nat} {c : Sl → R Bool} {f : Sl → R EV} {gi : Sl → R (List D)}
/-- each item gives g of it, the other slots stay -/
def LcMap (tt : D → Sl → Option Sl) (vs : List Nat) (c : Sl → R Bool) (f : Sl → R EV) (s0 : Sl) (ds : List D) (g : D → D) : Prop :=
  ∀ d ∈ ds, ∃ s', wipeS s' vs = s0 ∧ ∀ (ds' acc : List D), acc.length < 16000000 → lc1 tt vs c f ds' acc (tt d s0) = lcL tt vs c f ds' s' (acc ++ [g d])
theorem lcL_map {s0 : Sl} {g : D → D} : ∀ {ds : List D} {s : Sl} {acc : List D}, LcMap tt vs c f s0 ds g → wipeS s vs = s0 → acc.length + ds.length ≤ 16000000 → ∃ s', lcL tt vs c f ds s acc = .ok (acc ++ ds.map g) s' ∧ wipeS s' vs = s0
  | [], s, acc, _, hs, _ => ⟨s, by rw [x_lcL0, List.map_nil, List.append_nil], hs⟩
  | d :: ds, s, acc, h, hs, hl => by
    obtain ⟨s1, e1, h1⟩ := h d (by simp)
    rw [List.length_cons] at hl
    rw [x_lcL, hs, h1 ds acc (by omega)]
    obtain ⟨s2, e2, h2⟩ := lcL_map (acc := acc ++ [g d]) (fun d' hd => h d' (List.mem_cons_of_mem _ hd)) e1 (by rw [List.length_append, List.length_singleton]; omega)
    exact ⟨s2, by rw [e2, List.append_assoc, List.map_cons]; rfl, h2⟩
theorem lcE_map {s s1 s0 : Sl} {g : D → D} {ds : List D} (hg : gi s = .ok ds s1) (hs : wipeS s1 vs = s0) (h : LcMap tt vs c f s0 ds g) (hl : ds.length ≤ 16000000) : lcE gi tt vs c f s = .ok (.val (.lst true (ds.map g))) s0 := by
  obtain ⟨s', e, h'⟩ := lcL_map (acc := []) h hs (by simpa using hl)
  rw [x_lcE, hg, x_bind1, x_lc0, e, x_bind1, x_lcN, List.nil_append, h']
end

/-! ## 21. terms -/
inductive Fk where
  | ifzero | tick | waste | add | sub | mul | div | lt | eq
  deriving DecidableEq
def Fk.s : Fk → Str
  | .ifzero => "ifzero" | .tick => "tick" | .waste => "waste" | .add => "+" | .sub => "-" | .mul => "*" | .div => "/" | .lt => "<" | .eq => "="
def Fk.ar : Fk → Nat
  | .ifzero => 3 | .tick => 1 | .waste => 1 | _ => 2
/-- a term's head -/
inductive Hd where
  | var (x : Str)
  | num (n : Int)
  | make (c : Str) (xs : List Str)
  | hole
  | fn (x : Str)
  | call (x : Str)
  | lets (xs : List Str)
  | case (rows : List (Str × List Str))
  | flat (k : Fk)
  deriving DecidableEq
def Hd.ar : Hd → Nat
  | .var _ => 0 | .num _ => 0 | .make _ _ => 0 | .hole => 0 | .fn _ => 1 | .call _ => 1 | .lets xs => xs.length + 1 | .case rows => rows.length + 1 | .flat k => k.ar
inductive Tm where
  | mk (h : Hd) (ts : List Tm)
def sD (x : Str) : D := .str x
def nsD (xs : List Str) : D := .tup (xs.map .str)
def Hd.d : Hd → List D → D
  | .var x, _ => .tup [.str "var", .str x]
  | .num n, _ => .tup [.str "number", .int n]
  | .make c xs, _ => .tup [.str "make", .str c, nsD xs]
  | .hole, _ => .tup [.str "hole"]
  | .fn x, ds => .tup [.str "fun", .str x, ds.headD .non]
  | .call x, ds => .tup [.str "call", ds.headD .non, .str x]
  | .lets xs, ds => .tup [.str "let", .tup (List.zipWith (fun x d => D.tup [.str x, d]) xs ds), ds.getD xs.length .non]
  | .case rows, ds => .tup [.str "case", ds.headD .non, .tup (List.zipWith (fun (r : Str × List Str) d => D.tup [.str r.1, nsD r.2, d]) rows ds.tail)]
  | .flat k, ds => .tup (.str k.s :: ds)
mutual
def Tm.d : Tm → D
  | .mk h ts => h.d (Tm.ds ts)
def Tm.ds : List Tm → List D
  | [] => []
  | t :: ts => t.d :: Tm.ds ts
end
/-- the names bound in the parts -/
def Hd.bnd : Hd → List (List Str)
  | .fn x => [[x]]
  | .lets xs => List.replicate (xs.length + 1) xs
  | .case rows => [] :: rows.map (·.2)
  | .call _ => [[]]
  | .flat k => List.replicate k.ar []
  | _ => []
/-- the names used at the head -/
def Hd.own : Hd → List Str
  | .var x => [x]
  | .call x => [x]
  | .make _ xs => xs
  | _ => []
/-- no more than a hundred of anything -/
def Hd.fine (h : Hd) : Bool := Nat.ble h.ar 100 && (h.bnd.all (fun b => Nat.ble b.length 100) && Nat.ble h.own.length 100)
mutual
def Tm.ok : Tm → Bool
  | .mk h ts => Nat.beq ts.length h.ar && (h.fine && Tm.oks ts)
def Tm.oks : List Tm → Bool
  | [] => true
  | t :: ts => t.ok && Tm.oks ts
end
def Tm.hd : Tm → Hd
  | .mk h _ => h
def Tm.subs : Tm → List Tm
  | .mk _ ts => ts
theorem Tm.ds_eq : ∀ ts : List Tm, Tm.ds ts = ts.map Tm.d
  | [] => rfl
  | t :: ts => by rw [Tm.ds, List.map_cons, Tm.ds_eq ts]
theorem Hd.bnd_len : ∀ h : Hd, h.bnd.length = h.ar
  | .var _ => rfl
  | .num _ => rfl
  | .make _ _ => rfl
  | .hole => rfl
  | .fn _ => rfl
  | .call _ => rfl
  | .lets xs => by simp [Hd.bnd, Hd.ar]
  | .case rows => by simp [Hd.bnd, Hd.ar]
  | .flat k => by simp [Hd.bnd, Hd.ar]
def ptD (t : Tm) (ns : List Str) : D := .tup [t.d, nsD ns]
def Tm.parts : Tm → List D
  | .mk h ts => List.zipWith ptD ts h.bnd
@[simp] theorem Tm.d_own (t : Tm) : t.d.own = false := by
  obtain ⟨h, ts⟩ := t
  rw [Tm.d]
  cases h <;> rfl
@[simp] theorem Tm.d_frz (t : Tm) : t.d.frz = t.d := by
  obtain ⟨h, ts⟩ := t
  rw [Tm.d]
  cases h <;> rfl
end NS
namespace NS
open PySem PySem.Spec PyProof.Rows L2
/-! ## 22. parts -/
variable {cP : Nat → List D → CR}
theorem ds_len : ∀ ts : List Tm, (Tm.ds ts).length = ts.length
  | [] => rfl
  | t :: ts => by rw [Tm.ds, List.length_cons, List.length_cons, ds_len ts]
theorem ok_mk {h : Hd} {ts : List Tm} (e : (Tm.mk h ts).ok = true) : ts.length = h.ar ∧ Tm.oks ts = true := by
  have e : (Nat.beq ts.length h.ar && (h.fine && Tm.oks ts)) = true := e
  rw [Bool.and_eq_true, Bool.and_eq_true] at e
  exact ⟨Nat.eq_of_beq_eq_true e.1, e.2.2⟩
theorem ok_fine {h : Hd} {ts : List Tm} (e : (Tm.mk h ts).ok = true) : h.fine = true := by
  have e : (Nat.beq ts.length h.ar && (h.fine && Tm.oks ts)) = true := e
  rw [Bool.and_eq_true, Bool.and_eq_true] at e
  exact e.2.1
theorem fine_ar {h : Hd} (e : h.fine = true) : h.ar ≤ 100 := by
  unfold Hd.fine at e
  rw [Bool.and_eq_true, Bool.and_eq_true] at e
  exact Nat.le_of_ble_eq_true e.1
theorem fine_own {h : Hd} (e : h.fine = true) : h.own.length ≤ 100 := by
  unfold Hd.fine at e
  rw [Bool.and_eq_true, Bool.and_eq_true] at e
  exact Nat.le_of_ble_eq_true e.2.2
theorem fine_bnd {h : Hd} (e : h.fine = true) (i : Nat) : (h.bnd.getD i []).length ≤ 100 := by
  unfold Hd.fine at e
  rw [Bool.and_eq_true, Bool.and_eq_true] at e
  by_cases hi : i < h.bnd.length
  · have z := List.all_eq_true.mp e.2.1 h.bnd[i] (List.getElem_mem hi)
    simp [hi]
    exact Nat.le_of_ble_eq_true z
  · simp [hi]
theorem ok_ar {h : Hd} {ts : List Tm} (e : (Tm.mk h ts).ok = true) : h.ar ≤ 100 := fine_ar (ok_fine e)
theorem oks_mem : ∀ {ts : List Tm} {t : Tm}, Tm.oks ts = true → t ∈ ts → t.ok = true
  | [], t, _, h => by cases h
  | a :: ts, t, e, h => by
    have e : (a.ok && Tm.oks ts) = true := e
    rw [Bool.and_eq_true] at e
    rcases List.mem_cons.mp h with rfl | h
    · exact e.1
    · exact oks_mem e.2 h
def rowsD (xs : List Str) (ts : List Tm) : List D := List.zipWith (fun x d => D.tup [.str x, d]) xs (Tm.ds ts)
theorem mem_rowsD : ∀ {xs : List Str} {ts : List Tm} {d : D}, d ∈ rowsD xs ts → ∃ x t, d = .tup [.str x, Tm.d t]
  | [], ts, d, h => by simp [rowsD] at h
  | x :: xs, [], d, h => by simp [rowsD, Tm.ds] at h
  | x :: xs, t :: ts, d, h => by
    have h : d ∈ D.tup [.str x, t.d] :: rowsD xs ts := h
    rcases List.mem_cons.mp h with rfl | h
    · exact ⟨x, t, rfl⟩
    · exact mem_rowsD h
def g0 : D → D
  | .tup (a :: _) => a
  | _ => .non
def g1 (ns : List Str) : D → D
  | .tup [_, b] => .tup [b, nsD ns]
  | _ => .non
theorem rowsD_len : ∀ {xs : List Str} {ts : List Tm}, xs.length ≤ ts.length → (rowsD xs ts).length = xs.length
  | [], ts, _ => rfl
  | x :: xs, [], h => by simp at h
  | x :: xs, t :: ts, h => congrArg Nat.succ (rowsD_len (by simpa using h))
theorem rows_g0 : ∀ {xs : List Str} {ts : List Tm}, xs.length ≤ ts.length → (rowsD xs ts).map g0 = xs.map .str
  | [], ts, _ => rfl
  | x :: xs, [], h => by simp at h
  | x :: xs, t :: ts, h => congrArg (D.str x :: ·) (rows_g0 (by simpa using h))
theorem rows_g1 (ns : List Str) : ∀ {xs : List Str} {ts : List Tm}, ts.length = xs.length + 1 → (rowsD xs ts).map (g1 ns) ++ [.tup [(Tm.ds ts).getD xs.length .non, nsD ns]] = List.zipWith ptD ts (List.replicate (xs.length + 1) ns)
  | [], [], h => by cases h
  | [], [t], h => rfl
  | [], _ :: _ :: _, h => by simp at h
  | x :: xs, [], h => by simp at h
  | x :: xs, t :: ts, h => by
    have e := rows_g1 ns (xs := xs) (ts := ts) (by simpa using h)
    rw [List.length_cons, List.replicate_succ, List.zipWith_cons_cons, ← e]
    rfl
theorem lc_names {ts : List Tm} {xs : List Str} {a : D} {o5 o6 : Option D} : LcMap (tgT' [3, 4]) [3, 4] yesT M_parts_e2 [some a, some (.str "let"), none, none, none, o5, o6] (rowsD xs ts) g0 := by
  intro d hd
  obtain ⟨x, t, rfl⟩ := mem_rowsD hd
  refine ⟨[some a, some (.str "let"), none, some (.str x), some t.d, o5, o6], rfl, fun ds' acc hl => ?_⟩
  simp [M_parts_e2, hl, g0]
theorem lc_bound {ts : List Tm} {xs ns : List Str} {a : D} {o5 o6 : Option D} : LcMap (tgT' [3, 4]) [3, 4] yesT M_parts_e1 [some a, some (.str "let"), some (nsD ns), none, none, o5, o6] (rowsD xs ts) (g1 ns) := by
  intro d hd
  obtain ⟨x, t, rfl⟩ := mem_rowsD hd
  refine ⟨[some a, some (.str "let"), some (nsD ns), some (.str x), some t.d, o5, o6], rfl, fun ds' acc hl => ?_⟩
  simp [M_parts_e1, hl, g1, nsD]
def casesD (rows : List (Str × List Str)) (ts : List Tm) : List D := List.zipWith (fun (r : Str × List Str) d => D.tup [.str r.1, nsD r.2, d]) rows (Tm.ds ts)
theorem mem_casesD : ∀ {xs : List (Str × List Str)} {ts : List Tm} {d : D}, d ∈ casesD xs ts → ∃ x ns t, d = .tup [.str x, nsD ns, Tm.d t]
  | [], ts, d, h => by simp [casesD] at h
  | x :: xs, [], d, h => by simp [casesD, Tm.ds] at h
  | x :: xs, t :: ts, d, h => by
    have h : d ∈ D.tup [.str x.1, nsD x.2, t.d] :: casesD xs ts := h
    rcases List.mem_cons.mp h with rfl | h
    · exact ⟨x.1, x.2, t, rfl⟩
    · exact mem_casesD h
def g2 : D → D
  | .tup [_, n, b] => .tup [b, n]
  | _ => .non
theorem casesD_len : ∀ {xs : List (Str × List Str)} {ts : List Tm}, xs.length ≤ ts.length → (casesD xs ts).length = xs.length
  | [], ts, _ => rfl
  | x :: xs, [], h => by simp at h
  | x :: xs, t :: ts, h => congrArg Nat.succ (casesD_len (by simpa using h))
theorem cases_g2 : ∀ {xs : List (Str × List Str)} {ts : List Tm}, (casesD xs ts).map g2 = List.zipWith ptD ts (xs.map (·.2))
  | [], [] => rfl
  | [], _ :: _ => rfl
  | x :: xs, [] => rfl
  | x :: xs, t :: ts => congrArg (ptD t x.2 :: ·) (cases_g2 (xs := xs) (ts := ts))
theorem lc_case {ts : List Tm} {xs : List (Str × List Str)} {a : D} {o3 o4 : Option D} : LcMap (tgT' [5, 2, 6]) [5, 2, 6] yesT M_parts_e0 [some a, some (.str "case"), none, o3, o4, none, none] (casesD xs ts) g2 := by
  intro d hd
  obtain ⟨x, ns, t, rfl⟩ := mem_casesD hd
  refine ⟨[some a, some (.str "case"), some (nsD ns), o3, o4, some (.str x), some t.d], rfl, fun ds' acc hl => ?_⟩
  simp [M_parts_e0, hl, g2, nsD]
theorem ds_at : ∀ {ts : List Tm} {i : Nat}, i < ts.length → ∃ t, (Tm.ds ts).getD i .non = Tm.d t
  | [], i, h => by cases h
  | t :: ts, 0, _ => ⟨t, rfl⟩
  | t :: ts, i + 1, h => ds_at (ts := ts) (i := i) (by simpa using h)
theorem plain_of {ds : List D} (h : ∀ d ∈ ds, d.own = false) : plainL ds = true := by
  unfold plainL
  rw [List.all_eq_true]
  intro d hd
  rw [h d hd]
  rfl
theorem parts_ok (q : ∀ k ds, cP (k + 1) ds = calOf M_parts 7 [true] ds) (k : Nat) (t : Tm) (ht : t.ok = true) : cP (k + 1) [t.d] = .ok (.lst true t.parts) [some t.d] := by
  obtain ⟨h, ts⟩ := t
  obtain ⟨hl, hs⟩ := ok_mk ht
  have hb := ok_ar ht
  rw [q, x_calOf]
  cases h with
  | var x =>
    cases ts <;> simp [Hd.ar] at hl
    simp (decide := true) [Tm.d, Tm.ds, Hd.d, M_parts, begS, ixD, L2.atI, ixN, Tm.parts, Hd.bnd]
  | num x =>
    cases ts <;> simp [Hd.ar] at hl
    simp (decide := true) [Tm.d, Tm.ds, Hd.d, M_parts, begS, ixD, L2.atI, ixN, Tm.parts, Hd.bnd]
  | make x =>
    cases ts <;> simp [Hd.ar] at hl
    simp (decide := true) [Tm.d, Tm.ds, Hd.d, M_parts, begS, ixD, L2.atI, ixN, Tm.parts, Hd.bnd]
  | hole =>
    cases ts <;> simp [Hd.ar] at hl
    simp (decide := true) [Tm.d, Tm.ds, Hd.d, M_parts, begS, ixD, L2.atI, ixN, Tm.parts, Hd.bnd]
  | fn x =>
    rcases ts with _ | ⟨t, _ | ⟨t2, ts⟩⟩ <;> simp [Hd.ar] at hl
    simp (decide := true) [Tm.d, Tm.ds, Hd.d, M_parts, begS, ixD, L2.atI, ixN, Tm.parts, Hd.bnd, ptD, nsD]
  | call x =>
    rcases ts with _ | ⟨t, _ | ⟨t2, ts⟩⟩ <;> simp [Hd.ar] at hl
    simp (decide := true) [Tm.d, Tm.ds, Hd.d, M_parts, begS, ixD, L2.atI, ixN, Tm.parts, Hd.bnd, ptD, nsD]
  | flat f =>
    cases f
    all_goals
      rcases ts with _ | ⟨t, _ | ⟨t2, _ | ⟨t3, _ | ⟨t4, ts⟩⟩⟩⟩ <;> simp [Hd.ar, Fk.ar] at hl
      simp (decide := true) [Tm.d, Tm.ds, Hd.d, M_parts, begS, ixD, L2.atI, ixN, Tm.parts, Hd.bnd, ptD, nsD, Fk.s, Fk.ar]
  | lets xs =>
    have hl : ts.length = xs.length + 1 := hl
    have hb : xs.length + 1 ≤ 100 := hb
    have hp : plainL (rowsD xs ts) = true := plain_of fun d hd => by obtain ⟨x, t, rfl⟩ := mem_rowsD hd; rfl
    have hn : (rowsD xs ts).length = xs.length := rowsD_len (by omega)
    obtain ⟨tl, htl⟩ := ds_at (ts := ts) (i := xs.length) (by omega)
    have e3 := rows_g1 xs hl
    have hd : Tm.d (.mk (.lets xs) ts) = .tup [.str "let", .tup (rowsD xs ts), tl.d] := by
      rw [← htl, Tm.d]
      rfl
    rw [htl] at e3
    rw [hd]
    generalize hR : rowsD xs ts = R at *
    have e1 := lcE_map (gi := plI (seqI (bin2 (nameE 0) (constE (.int 1)) ixK))) (s := [some (.tup [.str "let", .tup R, tl.d]), some (.str "let"), none, none, none, none, none]) (s1 := [some (.tup [.str "let", .tup R, tl.d]), some (.str "let"), none, none, none, none, none]) (ds := R) (by simp [ixD, L2.atI, ixN, hp]) rfl (hR ▸ lc_names (ts := ts) (xs := xs) (a := .tup [.str "let", .tup R, tl.d]) (o5 := none) (o6 := none)) (by omega)
    have e2 := lcE_map (gi := plI (seqI (bin2 (nameE 0) (constE (.int 1)) ixK))) (s := [some (.tup [.str "let", .tup R, tl.d]), some (.str "let"), some (nsD xs), none, none, none, none]) (s1 := [some (.tup [.str "let", .tup R, tl.d]), some (.str "let"), some (nsD xs), none, none, none, none]) (ds := R) (by simp [ixD, L2.atI, ixN, hp, nsD]) rfl (hR ▸ lc_bound (ts := ts) (xs := xs) (ns := xs) (a := .tup [.str "let", .tup R, tl.d]) (o5 := none) (o6 := none)) (by omega)
    rw [← hR, rows_g0 (by omega), hR] at e1
    have hz : R.length + 1 ≤ 16000000 := by omega
    rw [show nsD xs = .tup (xs.map .str) from rfl] at *
    simp (decide := true) [M_parts, begS, ixD, L2.atI, ixN, e1, e2, Tm.parts, Hd.bnd, hz, ← e3]
  | case rows =>
    obtain _ | ⟨t0, ts⟩ := ts
    · cases hl
    have hl : ts.length + 1 = rows.length + 1 := hl
    have hb : rows.length + 1 ≤ 100 := hb
    have hp : plainL (casesD rows ts) = true := plain_of fun d hd => by obtain ⟨x, ns, t, rfl⟩ := mem_casesD hd; rfl
    have hn : (casesD rows ts).length = rows.length := casesD_len (by omega)
    have e3 := cases_g2 (xs := rows) (ts := ts)
    have hd : Tm.d (.mk (.case rows) (t0 :: ts)) = .tup [.str "case", t0.d, .tup (casesD rows ts)] := by
      rw [Tm.d]
      rfl
    rw [hd]
    generalize hR : casesD rows ts = R at *
    have e1 := lcE_map (gi := plI (seqI (bin2 (nameE 0) (constE (.int 2)) ixK))) (s := [some (.tup [.str "case", t0.d, .tup R]), some (.str "case"), none, none, none, none, none]) (s1 := [some (.tup [.str "case", t0.d, .tup R]), some (.str "case"), none, none, none, none, none]) (ds := R) (by simp [ixD, L2.atI, ixN, hp]) rfl (hR ▸ lc_case (ts := ts) (xs := rows) (a := .tup [.str "case", t0.d, .tup R]) (o3 := none) (o4 := none)) (by omega)
    have hz : 1 + R.length ≤ 16000000 := by omega
    have hz2 : R.length + 1 ≤ 16000000 := by omega
    simp (decide := true) [M_parts, begS, ixD, L2.atI, ixN, e1, Tm.parts, Hd.bnd, hz, hz2, ← e3, ptD, nsD]
end NS
namespace NS
open PySem PySem.Spec PyProof.Rows L2
/-! ## 23. loops that fold -/
theorem forL_fold {step : D → Sl → Fl} {A : Type} {st : Nat → A → Sl → Prop} {up : A → D → A} : ∀ {ds : List D} {off : Nat} {a : A} {s : Sl}, (∀ j (hj : j < ds.length) a s, st (off + j) a s → (step ds[j] s).on (st (off + j + 1) (up a ds[j]))) → st off a s →
    ∃ s', forL step ds s = .nx s' ∧ st (off + ds.length) (ds.foldl up a) s'
  | [], off, a, s, _, hs => ⟨s, rfl, hs⟩
  | d :: ds, off, a, s, h, hs => by
    obtain ⟨s1, e1, h1⟩ := Fl.on_nx (h 0 (Nat.zero_lt_succ _) a s hs)
    obtain ⟨s2, e2, h2⟩ := forL_fold (step := step) (st := st) (up := up) (ds := ds) (off := off + 1) (fun j hj a s z => by
      have z' : st (off + (j + 1)) a s := by rw [show off + (j + 1) = off + 1 + j by omega]; exact z
      have := h (j + 1) (Nat.succ_lt_succ hj) a s z'
      rw [show off + 1 + j + 1 = off + (j + 1) + 1 by omega]
      exact this) h1
    refine ⟨s2, ?_, ?_⟩
    · have e1 : step d s = .nx s1 := e1
      rw [x_forL, e1, x_for1, e2]
    · rw [List.length_cons, show off + (ds.length + 1) = off + 1 + ds.length by omega]
      exact h2
/-! ## 24. names used, names free -/
theorem own_ok {cO : Nat → List D → CR} (q : ∀ k ds, cO (k + 1) ds = calOf M_own_names 1 [true] ds) (k : Nat) (t : Tm) (ht : t.ok = true) : cO (k + 1) [t.d] = .ok (nsD t.hd.own) [some t.d] := by
  obtain ⟨h, ts⟩ := t
  obtain ⟨hl, hs⟩ := ok_mk ht
  rw [q, x_calOf]
  cases h with
  | call x =>
    rcases ts with _ | ⟨t, _ | ⟨t2, ts⟩⟩ <;> simp [Hd.ar] at hl
    simp (decide := true) [Tm.d, Tm.ds, Hd.d, M_own_names, begS, ixD, L2.atI, ixN, nsD, Tm.hd, Hd.own]
  | flat f => cases f <;> simp (decide := true) [Tm.d, Tm.ds, Hd.d, M_own_names, begS, ixD, L2.atI, ixN, nsD, Tm.hd, Hd.own, Fk.s]
  | _ => simp (decide := true) [Tm.d, Tm.ds, Hd.d, M_own_names, begS, ixD, L2.atI, ixN, nsD, Tm.hd, Hd.own]
/-- one more, once -/
def ins (f : List Str) (x : Str) : List Str := if x ∈ f then f else f ++ [x]
def insU (ns : List Str) (f : List Str) (x : Str) : List Str := if x ∈ ns then f else ins f x
mutual
def FN : Tm → List Str
  | .mk h ts => FNs ts h.bnd (h.own.foldl ins [])
def FNs : List Tm → List (List Str) → List Str → List Str
  | t :: ts, ns :: bs, f => FNs ts bs ((FN t).foldl (insU ns) f)
  | _, _, f => f
end
mutual
/-- how many names -/
def Tm.cnt : Tm → Nat
  | .mk h ts => h.own.length + Tm.cnts ts
def Tm.cnts : List Tm → Nat
  | [] => 0
  | t :: ts => t.cnt + Tm.cnts ts
end
mutual
def Tm.ht : Tm → Nat
  | .mk h ts => Tm.hts ts + 1
def Tm.hts : List Tm → Nat
  | [] => 0
  | t :: ts => max t.ht (Tm.hts ts)
end
theorem ins_len (f : List Str) (x : Str) : (ins f x).length ≤ f.length + 1 := by
  unfold ins
  split
  · omega
  · rw [List.length_append, List.length_singleton]
    omega
theorem insU_len (ns f : List Str) (x : Str) : (insU ns f x).length ≤ f.length + 1 := by
  unfold insU
  split
  · omega
  · exact ins_len f x
theorem foldU_len (ns : List Str) : ∀ (xs f : List Str), (xs.foldl (insU ns) f).length ≤ f.length + xs.length
  | [], f => Nat.le_refl _
  | x :: xs, f => by
    have h1 := foldU_len ns xs (insU ns f x)
    have h2 := insU_len ns f x
    rw [List.foldl_cons, List.length_cons]
    omega
theorem foldI_len : ∀ (xs f : List Str), (xs.foldl ins f).length ≤ f.length + xs.length
  | [], f => Nat.le_refl _
  | x :: xs, f => by
    have h1 := foldI_len xs (ins f x)
    have h2 := ins_len f x
    rw [List.foldl_cons, List.length_cons]
    omega
mutual
theorem FN_len : ∀ t : Tm, (FN t).length ≤ t.cnt
  | .mk h ts => by
    have h1 := FNs_len ts h.bnd (h.own.foldl ins [])
    have h2 := foldI_len h.own []
    rw [FN, Tm.cnt]
    simp only [List.length_nil] at h2
    omega
theorem FNs_len : ∀ (ts : List Tm) (bs : List (List Str)) (f : List Str), (FNs ts bs f).length ≤ f.length + Tm.cnts ts
  | [], bs, f => by rw [FNs, Tm.cnts]; exact Nat.le_refl _; intro _ _ _ _ h; cases h
  | t :: ts, [], f => by rw [FNs]; omega; intro _ _ _ _ _ h; cases h
  | t :: ts, ns :: bs, f => by
    have h1 := FNs_len ts bs ((FN t).foldl (insU ns) f)
    have h2 := foldU_len ns (FN t) f
    have h3 := FN_len t
    rw [FNs, Tm.cnts]
    omega
end
def dS : D → Str
  | .str x => x
  | _ => ""
theorem foldl_strs {A : Type} (up : A → Str → A) : ∀ (xs : List Str) (a : A), (xs.map D.str).foldl (fun a d => up a (dS d)) a = xs.foldl up a
  | [], _ => rfl
  | x :: xs, a => foldl_strs up xs (up a x)
end NS
namespace NS
open PySem PySem.Spec PyProof.Rows L2
/-! ## 25. free names -/
theorem cnt_pos : ∀ (ts : List Tm) (t : Tm), t ∈ ts → t.cnt ≤ Tm.cnts ts
  | [], t, h => by cases h
  | a :: ts, t, h => by
    rw [Tm.cnts]
    rcases List.mem_cons.mp h with rfl | h
    · omega
    · have := cnt_pos ts t h
      omega
theorem ht_pos : ∀ (ts : List Tm) (t : Tm), t ∈ ts → t.ht ≤ Tm.hts ts
  | [], t, h => by cases h
  | a :: ts, t, h => by
    rw [Tm.hts]
    rcases List.mem_cons.mp h with rfl | h
    · omega
    · have := ht_pos ts t h
      omega
theorem mem_parts : ∀ {ts : List Tm} {bs : List (List Str)} {d : D}, d ∈ List.zipWith ptD ts bs → ∃ t ns, t ∈ ts ∧ d = ptD t ns
  | [], bs, d, h => by simp at h
  | t :: ts, [], d, h => by simp at h
  | t :: ts, ns :: bs, d, h => by
    rcases List.mem_cons.mp h with rfl | h
    · exact ⟨t, ns, by simp, rfl⟩
    · obtain ⟨t', ns', h1, h2⟩ := mem_parts h
      exact ⟨t', ns', List.mem_cons_of_mem _ h1, h2⟩
theorem plain_parts {ts : List Tm} {bs : List (List Str)} : plainL (List.zipWith ptD ts bs) = true := plain_of fun d hd => by
  obtain ⟨t, ns, _, rfl⟩ := mem_parts hd
  rfl
theorem plain_strs {xs : List Str} : plainL (xs.map D.str) = true := plain_of fun d hd => by
  obtain ⟨x, _, rfl⟩ := List.mem_map.mp hd
  rfl
section
variable {cF cP cO : Nat → List D → CR}
/-- the loop over own names -/
theorem free_l1 {k : Nat} {td : D} {xs : List Str} (hl : xs.length < 16000000) {o2 o3 o4 : Option D} : ∃ s', forL (stepS (tgN 2) (M_free_names_f2 (cP k) (cF k) (cO k))) (xs.map D.str) [some td, some (.lst true []), o2, o3, o4] = .nx s' ∧ ∃ o2, s' = [some td, some (.lst true ((xs.foldl ins []).map .str)), o2, o3, o4] := by
  obtain ⟨s', e, h1, h2⟩ := forL_fold (step := stepS (tgN 2) (M_free_names_f2 (cP k) (cF k) (cO k))) (st := fun j f s => f.length ≤ j ∧ ∃ o2, s = [some td, some (.lst true (f.map .str)), o2, o3, o4]) (up := fun f d => ins f (dS d)) (ds := xs.map D.str) (off := 0) (a := []) (s := [some td, some (.lst true []), o2, o3, o4]) (fun j hj f s ⟨z1, o, z2⟩ => by
    subst z2
    rw [List.getElem_map]
    rw [List.length_map] at hj
    have hi := ins_len f xs[j]
    have hlt : f.length < 16000000 := by omega
    by_cases hm : xs[j] ∈ f
    · simp [M_free_names_f2, hm, dS, ins]
      omega
    · simp [M_free_names_f2, hm, dS, ins, hlt]
      omega) ⟨Nat.le_refl _, o2, rfl⟩
  rw [foldl_strs] at h2
  exact ⟨s', e, h2⟩
/-- the inner loop over a part's free names -/
theorem free_l2 {k : Nat} {td pd : D} {xs ns f0 : List Str} (hl : f0.length + xs.length < 16000000) {o2 : Option D} : ∃ s', forL (stepS (tgN 2) (M_free_names_f0 (cP k) (cF k) (cO k))) (xs.map D.str) [some td, some (.lst true (f0.map .str)), o2, some pd, some (nsD ns)] = .nx s' ∧ ∃ o2, s' = [some td, some (.lst true ((xs.foldl (insU ns) f0).map .str)), o2, some pd, some (nsD ns)] := by
  obtain ⟨s', e, h1, h2⟩ := forL_fold (step := stepS (tgN 2) (M_free_names_f0 (cP k) (cF k) (cO k))) (st := fun j f s => f.length ≤ f0.length + j ∧ ∃ o2, s = [some td, some (.lst true (f.map .str)), o2, some pd, some (nsD ns)]) (up := fun f d => insU ns f (dS d)) (ds := xs.map D.str) (off := 0) (a := f0) (s := [some td, some (.lst true (f0.map .str)), o2, some pd, some (nsD ns)]) (fun j hj f s ⟨z1, o, z2⟩ => by
    subst z2
    rw [List.getElem_map]
    rw [List.length_map] at hj
    have hi := insU_len ns f xs[j]
    have hlt : f.length < 16000000 := by omega
    by_cases hn : xs[j] ∈ ns
    · simp [M_free_names_f0, hn, dS, insU, nsD]
      omega
    · by_cases hm : xs[j] ∈ f
      · simp [M_free_names_f0, hm, hn, dS, insU, ins, nsD]
        omega
      · simp [M_free_names_f0, hm, hn, dS, insU, ins, hlt, nsD]
        omega) ⟨by omega, o2, rfl⟩
  rw [foldl_strs] at h2
  exact ⟨s', e, h2⟩
/-- the loop over the parts -/
theorem free_l3 {k : Nat} {td : D} : ∀ {ts : List Tm} {bs : List (List Str)} {f : List Str} {o2 o3 o4 : Option D}, (∀ t ∈ ts, cF k [t.d] = .ok (.lst true ((FN t).map .str)) [some t.d]) → f.length + Tm.cnts ts < 16000000 →
    ∃ s', forL (stepS (tgT' [3, 4]) (M_free_names_f1 (cP k) (cF k) (cO k))) (List.zipWith ptD ts bs) [some td, some (.lst true (f.map .str)), o2, o3, o4] = .nx s' ∧ ∃ o2 o3 o4, s' = [some td, some (.lst true ((FNs ts bs f).map .str)), o2, o3, o4]
  | [], bs, f, o2, o3, o4, _, _ => ⟨_, by rw [List.zipWith_nil_left, x_forL0], o2, o3, o4, by rw [FNs]; intro _ _ _ _ h; cases h⟩
  | t :: ts, [], f, o2, o3, o4, _, _ => ⟨_, by rw [List.zipWith_nil_right, x_forL0], o2, o3, o4, by rw [FNs]; intro _ _ _ _ _ h; cases h⟩
  | t :: ts, ns :: bs, f, o2, o3, o4, ih, hl => by
    rw [Tm.cnts] at hl
    have hc := FN_len t
    have h1 := ih t (by simp)
    obtain ⟨s1, e1, o2', hs1⟩ := free_l2 (cF := cF) (cP := cP) (cO := cO) (k := k) (td := td) (pd := t.d) (xs := FN t) (ns := ns) (f0 := f) (by omega) (o2 := o2)
    subst hs1
    have hf := foldU_len ns (FN t) f
    obtain ⟨s2, e2, h2⟩ := free_l3 (k := k) (td := td) (ts := ts) (bs := bs) (f := (FN t).foldl (insU ns) f) (o2 := o2') (o3 := some t.d) (o4 := some (nsD ns)) (fun t' h' => ih t' (List.mem_cons_of_mem _ h')) (by omega)
    refine ⟨s2, ?_, by rw [FNs]; exact h2⟩
    rw [List.zipWith_cons_cons, x_forL]
    have e3 : stepS (tgT' [3, 4]) (M_free_names_f1 (cP k) (cF k) (cO k)) (ptD t ns) [some td, some (.lst true (f.map .str)), o2, o3, o4] = .nx [some td, some (.lst true (((FN t).foldl (insU ns) f).map .str)), o2', some t.d, some (nsD ns)] := by
      have hp : plainL ((FN t).map D.str) = true := plain_strs
      have hn : (nsD ns).own = false := rfl
      simp [ptD, M_free_names_f1, h1, hp, e1, hn]
    rw [e3, x_for1, e2]
theorem free_ok (qF : ∀ k ds, cF (k + 1) ds = calOf (M_free_names (cP k) (cF k) (cO k)) 5 [true] ds) (qP : ∀ k ds, cP (k + 1) ds = calOf M_parts 7 [true] ds) (qO : ∀ k ds, cO (k + 1) ds = calOf M_own_names 1 [true] ds) :
    ∀ (k : Nat) (t : Tm), t.ok = true → t.cnt < 16000000 → t.ht ≤ k → cF (k + 1) [t.d] = .ok (.lst true ((FN t).map .str)) [some t.d]
  | 0, .mk h ts, _, _, hk => by rw [Tm.ht] at hk; omega
  | k + 1, .mk h ts, ht, hc, hk => by
    obtain ⟨hl, hs⟩ := ok_mk ht
    rw [Tm.ht] at hk
    rw [Tm.cnt] at hc
    have ih : ∀ t ∈ ts, cF (k + 1) [t.d] = .ok (.lst true ((FN t).map .str)) [some t.d] := fun t h => by
      have h1 := cnt_pos ts t h
      have h2 := ht_pos ts t h
      exact free_ok qF qP qO k t (oks_mem hs h) (by omega) (by omega)
    have hP := parts_ok qP k (.mk h ts) ht
    have hO := own_ok qO k (.mk h ts) ht
    obtain ⟨s1, e1, o2, h1⟩ := free_l1 (cF := cF) (cP := cP) (cO := cO) (k := k + 1) (td := Tm.d (.mk h ts)) (xs := h.own) (by omega) (o2 := none) (o3 := none) (o4 := none)
    subst h1
    have h0 := foldI_len h.own []
    simp only [List.length_nil] at h0
    obtain ⟨s2, e2, o2, o3, o4, h2⟩ := free_l3 (cF := cF) (cP := cP) (cO := cO) (k := k + 1) (td := Tm.d (.mk h ts)) (ts := ts) (bs := h.bnd) (f := h.own.foldl ins []) ih (by omega) (o2 := o2) (o3 := none) (o4 := none)
    subst h2
    rw [qF, x_calOf]
    have p1 : plainL (h.own.map D.str) = true := plain_strs
    have p2 : plainL (Tm.parts (.mk h ts)) = true := plain_parts
    rw [show Tm.parts (.mk h ts) = List.zipWith ptD ts h.bnd from rfl] at *
    rw [show (Tm.mk h ts).hd.own = h.own from rfl, show nsD h.own = .tup (h.own.map .str) from rfl] at hO
    simp [M_free_names, begS, hO, hP, p1, p2, e1, e2, FN]
end
end NS
namespace NS
open PySem PySem.Spec PyProof.Rows L2
/-! ## 26. captures -/
mutual
def CP : Tm → Str → Str → Bool
  | .mk h ts, x, y => CPs ts h.bnd x y
def CPs : List Tm → List (List Str) → Str → Str → Bool
  | t :: ts, ns :: bs, x, y => (!decide (x ∈ ns) && (decide (y ∈ ns) && decide (x ∈ FN t) || CP t x y)) || CPs ts bs x y
  | _, _, _, _ => false
end
section
variable {cF cP cO cC : Nat → List D → CR}
theorem capt_l {k : Nat} {td : D} {x y : Str} : ∀ {ts : List Tm} {bs : List (List Str)} {o3 o4 : Option D}, (∀ t ∈ ts, cF k [t.d] = .ok (.lst true ((FN t).map .str)) [some t.d]) → (∀ t ∈ ts, cC k [t.d, .str x, .str y] = .ok (.bl (CP t x y)) [some t.d, some (.str x), some (.str y)]) →
    ∃ p3 p4, forL (stepS (tgT' [3, 4]) (M_captures_f0 (cP k) (cC k) (cF k))) (List.zipWith ptD ts bs) [some td, some (.str x), some (.str y), o3, o4] = if CPs ts bs x y then .rt (.bl true) [some td, some (.str x), some (.str y), p3, p4] else .nx [some td, some (.str x), some (.str y), p3, p4]
  | [], bs, o3, o4, _, _ => ⟨o3, o4, by rw [List.zipWith_nil_left, x_forL0, CPs]; rfl; intro _ _ _ _ h; cases h⟩
  | t :: ts, [], o3, o4, _, _ => ⟨o3, o4, by rw [List.zipWith_nil_right, x_forL0, CPs]; rfl; intro _ _ _ _ _ h; cases h⟩
  | t :: ts, ns :: bs, o3, o4, i1, i2 => by
    obtain ⟨p3, p4, e⟩ := capt_l (k := k) (td := td) (x := x) (y := y) (ts := ts) (bs := bs) (o3 := some t.d) (o4 := some (nsD ns)) (fun t' h' => i1 t' (List.mem_cons_of_mem _ h')) (fun t' h' => i2 t' (List.mem_cons_of_mem _ h'))
    have h1 := i1 t (by simp)
    have h2 := i2 t (by simp)
    have hn : (nsD ns).own = false := rfl
    have hs : stepS (tgT' [3, 4]) (M_captures_f0 (cP k) (cC k) (cF k)) (ptD t ns) [some td, some (.str x), some (.str y), o3, o4] = M_captures_f0 (cP k) (cC k) (cF k) [some td, some (.str x), some (.str y), some t.d, some (nsD ns)] := by simp [ptD, hn]
    rw [List.zipWith_cons_cons, x_forL, hs, CPs]
    have nx : M_captures_f0 (cP k) (cC k) (cF k) [some td, some (.str x), some (.str y), some t.d, some (nsD ns)] = .nx [some td, some (.str x), some (.str y), some t.d, some (nsD ns)] → (!decide (x ∈ ns) && (decide (y ∈ ns) && decide (x ∈ FN t) || CP t x y)) = false → ∃ p3 p4, for1 (stepS (tgT' [3, 4]) (M_captures_f0 (cP k) (cC k) (cF k))) (List.zipWith ptD ts bs) (M_captures_f0 (cP k) (cC k) (cF k) [some td, some (.str x), some (.str y), some t.d, some (nsD ns)]) = if ((!decide (x ∈ ns) && (decide (y ∈ ns) && decide (x ∈ FN t) || CP t x y)) || CPs ts bs x y) = true then .rt (.bl true) [some td, some (.str x), some (.str y), p3, p4] else .nx [some td, some (.str x), some (.str y), p3, p4] := fun z1 z2 => ⟨p3, p4, by rw [z1, x_for1, z2, Bool.false_or]; exact e⟩
    have rt : M_captures_f0 (cP k) (cC k) (cF k) [some td, some (.str x), some (.str y), some t.d, some (nsD ns)] = .rt (.bl true) [some td, some (.str x), some (.str y), some t.d, some (nsD ns)] → (!decide (x ∈ ns) && (decide (y ∈ ns) && decide (x ∈ FN t) || CP t x y)) = true → ∃ p3 p4, for1 (stepS (tgT' [3, 4]) (M_captures_f0 (cP k) (cC k) (cF k))) (List.zipWith ptD ts bs) (M_captures_f0 (cP k) (cC k) (cF k) [some td, some (.str x), some (.str y), some t.d, some (nsD ns)]) = if ((!decide (x ∈ ns) && (decide (y ∈ ns) && decide (x ∈ FN t) || CP t x y)) || CPs ts bs x y) = true then .rt (.bl true) [some td, some (.str x), some (.str y), p3, p4] else .nx [some td, some (.str x), some (.str y), p3, p4] := fun z1 z2 => ⟨_, _, by rw [z1, x_for4, z2, Bool.true_or]; rfl⟩
    by_cases c1 : x ∈ ns
    · exact nx (by simp [M_captures_f0, c1, nsD]) (by simp [c1])
    · by_cases c2 : y ∈ ns
      · by_cases c3 : x ∈ FN t
        · exact rt (by simp [M_captures_f0, c1, c2, c3, nsD, h1]) (by simp [c1, c2, c3])
        · by_cases c4 : CP t x y = true
          · exact rt (by simp [M_captures_f0, c1, c2, c3, c4, nsD, h1, h2]) (by simp [c1, c4])
          · have c4 : CP t x y = false := by simpa using c4
            exact nx (by simp [M_captures_f0, c1, c2, c3, c4, nsD, h1, h2]) (by simp [c1, c2, c3, c4])
      · by_cases c4 : CP t x y = true
        · exact rt (by simp [M_captures_f0, c1, c2, c4, nsD, h1, h2]) (by simp [c1, c4])
        · have c4 : CP t x y = false := by simpa using c4
          exact nx (by simp [M_captures_f0, c1, c2, c4, nsD, h1, h2]) (by simp [c1, c2, c4])
theorem capt_ok (qC : ∀ k ds, cC (k + 1) ds = calOf (M_captures (cP k) (cC k) (cF k)) 5 [true, true, true] ds) (qF : ∀ k ds, cF (k + 1) ds = calOf (M_free_names (cP k) (cF k) (cO k)) 5 [true] ds) (qP : ∀ k ds, cP (k + 1) ds = calOf M_parts 7 [true] ds) (qO : ∀ k ds, cO (k + 1) ds = calOf M_own_names 1 [true] ds) (x y : Str) :
    ∀ (k : Nat) (t : Tm), t.ok = true → t.cnt < 16000000 → t.ht ≤ k → cC (k + 1) [t.d, .str x, .str y] = .ok (.bl (CP t x y)) [some t.d, some (.str x), some (.str y)]
  | 0, .mk h ts, _, _, hk => by rw [Tm.ht] at hk; omega
  | k + 1, .mk h ts, ht, hc, hk => by
    obtain ⟨hl, hs⟩ := ok_mk ht
    rw [Tm.ht] at hk
    rw [Tm.cnt] at hc
    have ih : ∀ t ∈ ts, cC (k + 1) [t.d, .str x, .str y] = .ok (.bl (CP t x y)) [some t.d, some (.str x), some (.str y)] := fun t h => by
      have h1 := cnt_pos ts t h
      have h2 := ht_pos ts t h
      exact capt_ok qC qF qP qO x y k t (oks_mem hs h) (by omega) (by omega)
    have ih2 : ∀ t ∈ ts, cF (k + 1) [t.d] = .ok (.lst true ((FN t).map .str)) [some t.d] := fun t h => by
      have h1 := cnt_pos ts t h
      have h2 := ht_pos ts t h
      exact free_ok qF qP qO k t (oks_mem hs h) (by omega) (by omega)
    have hP := parts_ok qP k (.mk h ts) ht
    obtain ⟨o3, o4, e⟩ := capt_l (cF := cF) (cP := cP) (cC := cC) (k := k + 1) (td := Tm.d (.mk h ts)) (x := x) (y := y) (ts := ts) (bs := h.bnd) (o3 := none) (o4 := none) ih2 ih
    have p2 : plainL (List.zipWith ptD ts h.bnd) = true := plain_parts
    rw [show Tm.parts (.mk h ts) = List.zipWith ptD ts h.bnd from rfl] at *
    rw [qC, x_calOf, CP]
    cases hcp : CPs ts h.bnd x y <;> simp [M_captures, begS, hP, p2, e, hcp]
end
end NS
namespace NS
open PySem PySem.Spec PyProof.Rows L2
/-! ## 27. the law's own view of terms -/
theorem lc_e3 {ts : List Tm} {xs : List Str} {a : D} {o2 o3 : Option D} : LcMap (tgN 4) [4] yesT M_law_parts_e3 [some a, some (.str "let"), o2, o3, none] (rowsD xs ts) g0 := by
  intro d hd
  obtain ⟨x, t, rfl⟩ := mem_rowsD hd
  refine ⟨[some a, some (.str "let"), o2, o3, some (.tup [.str x, t.d])], rfl, fun ds' acc hl => ?_⟩
  simp [M_law_parts_e3, hl, g0, ixD, L2.atI, ixN]
theorem lc_e2 {ts : List Tm} {xs ns : List Str} {a : D} {o3 : Option D} : LcMap (tgN 4) [4] yesT M_law_parts_e2 [some a, some (.str "let"), some (nsD ns), o3, none] (rowsD xs ts) (g1 ns) := by
  intro d hd
  obtain ⟨x, t, rfl⟩ := mem_rowsD hd
  refine ⟨[some a, some (.str "let"), some (nsD ns), o3, some (.tup [.str x, t.d])], rfl, fun ds' acc hl => ?_⟩
  simp [M_law_parts_e2, hl, g1, nsD, ixD, L2.atI, ixN]
theorem lc_e1 {ts : List Tm} {xs : List (Str × List Str)} {a : D} {o2 o3 : Option D} : LcMap (tgN 4) [4] yesT M_law_parts_e1 [some a, some (.str "case"), o2, o3, none] (casesD xs ts) g2 := by
  intro d hd
  obtain ⟨x, ns, t, rfl⟩ := mem_casesD hd
  refine ⟨[some a, some (.str "case"), o2, o3, some (.tup [.str x, nsD ns, t.d])], rfl, fun ds' acc hl => ?_⟩
  simp [M_law_parts_e1, hl, g2, nsD, ixD, L2.atI, ixN]
theorem lawparts_ok {cP : Nat → List D → CR} (q : ∀ k ds, cP (k + 1) ds = calOf M_law_parts 5 [true] ds) (k : Nat) (t : Tm) (ht : t.ok = true) : cP (k + 1) [t.d] = .ok (.lst true t.parts) [some t.d] := by
  obtain ⟨h, ts⟩ := t
  obtain ⟨hl, hs⟩ := ok_mk ht
  have hb := ok_ar ht
  rw [q, x_calOf]
  cases h with
  | var x =>
    cases ts <;> simp [Hd.ar] at hl
    simp (decide := true) [Tm.d, Tm.ds, Hd.d, M_law_parts, begS, ixD, L2.atI, ixN, Tm.parts, Hd.bnd]
  | num x =>
    cases ts <;> simp [Hd.ar] at hl
    simp (decide := true) [Tm.d, Tm.ds, Hd.d, M_law_parts, begS, ixD, L2.atI, ixN, Tm.parts, Hd.bnd]
  | make x =>
    cases ts <;> simp [Hd.ar] at hl
    simp (decide := true) [Tm.d, Tm.ds, Hd.d, M_law_parts, begS, ixD, L2.atI, ixN, Tm.parts, Hd.bnd]
  | hole =>
    cases ts <;> simp [Hd.ar] at hl
    simp (decide := true) [Tm.d, Tm.ds, Hd.d, M_law_parts, begS, ixD, L2.atI, ixN, Tm.parts, Hd.bnd]
  | fn x =>
    rcases ts with _ | ⟨t, _ | ⟨t2, ts⟩⟩ <;> simp [Hd.ar] at hl
    simp (decide := true) [Tm.d, Tm.ds, Hd.d, M_law_parts, begS, ixD, L2.atI, ixN, Tm.parts, Hd.bnd, ptD, nsD]
  | call x =>
    rcases ts with _ | ⟨t, _ | ⟨t2, ts⟩⟩ <;> simp [Hd.ar] at hl
    simp (decide := true) [Tm.d, Tm.ds, Hd.d, M_law_parts, begS, ixD, L2.atI, ixN, Tm.parts, Hd.bnd, ptD, nsD]
  | flat f =>
    cases f
    all_goals
      rcases ts with _ | ⟨t, _ | ⟨t2, _ | ⟨t3, _ | ⟨t4, ts⟩⟩⟩⟩ <;> simp [Hd.ar, Fk.ar] at hl
      simp (decide := true) [Tm.d, Tm.ds, Hd.d, M_law_parts, begS, ixD, L2.atI, ixN, Tm.parts, Hd.bnd, ptD, nsD, Fk.s, Fk.ar, cutD, HT.sIx, x_lcE, x_lcL, M_law_parts_e0]
  | lets xs =>
    have hl : ts.length = xs.length + 1 := hl
    have hb : xs.length + 1 ≤ 100 := hb
    have hp : plainL (rowsD xs ts) = true := plain_of fun d hd => by obtain ⟨x, t, rfl⟩ := mem_rowsD hd; rfl
    have hn : (rowsD xs ts).length = xs.length := rowsD_len (by omega)
    obtain ⟨tl, htl⟩ := ds_at (ts := ts) (i := xs.length) (by omega)
    have e3 := rows_g1 xs hl
    have hd : Tm.d (.mk (.lets xs) ts) = .tup [.str "let", .tup (rowsD xs ts), tl.d] := by
      rw [← htl, Tm.d]
      rfl
    rw [htl] at e3
    rw [hd]
    generalize hR : rowsD xs ts = R at *
    have e1 := lcE_map (gi := plI (seqI (bin2 (nameE 0) (constE (.int 1)) ixK))) (s := [some (.tup [.str "let", .tup R, tl.d]), some (.str "let"), none, none, none]) (s1 := [some (.tup [.str "let", .tup R, tl.d]), some (.str "let"), none, none, none]) (ds := R) (by simp [ixD, L2.atI, ixN, hp]) rfl (hR ▸ lc_e3 (ts := ts) (xs := xs) (a := .tup [.str "let", .tup R, tl.d]) (o2 := none) (o3 := none)) (by omega)
    have e2 := lcE_map (gi := plI (seqI (bin2 (nameE 0) (constE (.int 1)) ixK))) (s := [some (.tup [.str "let", .tup R, tl.d]), some (.str "let"), some (nsD xs), none, none]) (s1 := [some (.tup [.str "let", .tup R, tl.d]), some (.str "let"), some (nsD xs), none, none]) (ds := R) (by simp [ixD, L2.atI, ixN, hp, nsD]) rfl (hR ▸ lc_e2 (ts := ts) (xs := xs) (ns := xs) (a := .tup [.str "let", .tup R, tl.d]) (o3 := none)) (by omega)
    rw [← hR, rows_g0 (by omega), hR] at e1
    have hz : R.length + 1 ≤ 16000000 := by omega
    rw [show nsD xs = .tup (xs.map .str) from rfl] at *
    simp (decide := true) [M_law_parts, begS, ixD, L2.atI, ixN, e1, e2, Tm.parts, Hd.bnd, hz, ← e3]
  | case rows =>
    obtain _ | ⟨t0, ts⟩ := ts
    · cases hl
    have hl : ts.length + 1 = rows.length + 1 := hl
    have hb : rows.length + 1 ≤ 100 := hb
    have hp : plainL (casesD rows ts) = true := plain_of fun d hd => by obtain ⟨x, ns, t, rfl⟩ := mem_casesD hd; rfl
    have hn : (casesD rows ts).length = rows.length := casesD_len (by omega)
    have e3 := cases_g2 (xs := rows) (ts := ts)
    have hd : Tm.d (.mk (.case rows) (t0 :: ts)) = .tup [.str "case", t0.d, .tup (casesD rows ts)] := by
      rw [Tm.d]
      rfl
    rw [hd]
    generalize hR : casesD rows ts = R at *
    have e1 := lcE_map (gi := plI (seqI (bin2 (nameE 0) (constE (.int 2)) ixK))) (s := [some (.tup [.str "case", t0.d, .tup R]), some (.str "case"), none, none, none]) (s1 := [some (.tup [.str "case", t0.d, .tup R]), some (.str "case"), none, none, none]) (ds := R) (by simp [ixD, L2.atI, ixN, hp]) rfl (hR ▸ lc_e1 (ts := ts) (xs := rows) (a := .tup [.str "case", t0.d, .tup R]) (o2 := none) (o3 := none)) (by omega)
    have hz : 1 + R.length ≤ 16000000 := by omega
    have hz2 : R.length + 1 ≤ 16000000 := by omega
    simp (decide := true) [M_law_parts, begS, ixD, L2.atI, ixN, e1, Tm.parts, Hd.bnd, hz, hz2, ← e3, ptD, nsD]
theorem lawown_ok {cO : Nat → List D → CR} (q : ∀ k ds, cO (k + 1) ds = calOf M_law_own 1 [true] ds) (k : Nat) (t : Tm) (ht : t.ok = true) : cO (k + 1) [t.d] = .ok (.lst true (t.hd.own.map .str)) [some t.d] := by
  obtain ⟨h, ts⟩ := t
  obtain ⟨hl, hs⟩ := ok_mk ht
  rw [q, x_calOf]
  cases h with
  | call x =>
    rcases ts with _ | ⟨t, _ | ⟨t2, ts⟩⟩ <;> simp [Hd.ar] at hl
    simp (decide := true) [Tm.d, Tm.ds, Hd.d, M_law_own, begS, ixD, L2.atI, ixN, nsD, Tm.hd, Hd.own]
  | flat f => cases f <;> simp (decide := true) [Tm.d, Tm.ds, Hd.d, M_law_own, begS, ixD, L2.atI, ixN, nsD, Tm.hd, Hd.own, Fk.s]
  | _ => simp (decide := true) [Tm.d, Tm.ds, Hd.d, M_law_own, begS, ixD, L2.atI, ixN, nsD, Tm.hd, Hd.own]
end NS
namespace NS
open PySem PySem.Spec PyProof.Rows L2
/-! ## 28. uses -/
def sel (i : Nat) (ns : List Str) (us : List (List Nat × Str)) : List (List Nat × Str) := (us.filter fun u => !decide (u.2 ∈ ns)).map fun u => (i :: u.1, u.2)
mutual
def LU : Tm → List (List Nat × Str)
  | .mk h ts => h.own.map (fun x => ([], x)) ++ LUs 0 ts h.bnd
def LUs : Nat → List Tm → List (List Str) → List (List Nat × Str)
  | i, t :: ts, ns :: bs => sel i ns (LU t) ++ LUs (i + 1) ts bs
  | _, _, _ => []
end
theorem LUs_nil1 {i : Nat} {bs : List (List Str)} : LUs i [] bs = [] := by rw [LUs]; intro _ _ _ _ h; cases h
theorem LUs_nil2 {i : Nat} {ts : List Tm} : LUs i ts [] = [] := by
  cases ts with
  | nil => exact LUs_nil1
  | cons t ts => rw [LUs]; intro _ _ _ _ _ h; cases h
theorem sel_len (i : Nat) (ns : List Str) (us : List (List Nat × Str)) : (sel i ns us).length ≤ us.length := by
  unfold sel
  rw [List.length_map]
  exact List.length_filter_le _ _
mutual
theorem LU_len : ∀ t : Tm, (LU t).length ≤ t.cnt
  | .mk h ts => by
    have := LUs_len 0 ts h.bnd
    rw [LU, Tm.cnt, List.length_append, List.length_map]
    omega
theorem LUs_len : ∀ (i : Nat) (ts : List Tm) (bs : List (List Str)), (LUs i ts bs).length ≤ Tm.cnts ts
  | i, [], bs => by rw [LUs_nil1, Tm.cnts]; exact Nat.le_refl _
  | i, t :: ts, [] => by rw [LUs_nil2]; exact Nat.zero_le _
  | i, t :: ts, ns :: bs => by
    have h1 := sel_len i ns (LU t)
    have h2 := LU_len t
    have h3 := LUs_len (i + 1) ts bs
    rw [LUs, Tm.cnts, List.length_append]
    omega
end
def pathD (p : List Nat) : D := .tup (p.map fun (i : Nat) => D.int i)
def useD (u : List Nat × Str) : D := .tup [pathD u.1, .str u.2]
theorem plain_uses {us : List (List Nat × Str)} : plainL (us.map useD) = true := plain_of fun d hd => by
  obtain ⟨x, _, rfl⟩ := List.mem_map.mp hd
  rfl
section
variable {cU cP cO : Nat → List D → CR}
theorem uses_l1 {k i : Nat} {td : D} {pts : List D} {pd : D} {ns : List Str} (hx : ixD (.lst false pts) (.int (i : Nat)) = some (.tup [pd, nsD ns])) (hpd : pd.own = false) : ∀ {us : List (List Nat × Str)} {fo : List D} {o4 o5 : Option D}, (∀ u ∈ us, u.1.length < 1000) → fo.length + us.length < 16000000 →
    ∃ s', forL (stepS (tgT' [5, 4]) (M_law_uses_f0 (cU k) (cP k) (cO k))) (us.map useD) [some td, some (.lst true fo), some (.lst true pts), some (.int (i : Nat)), o4, o5] = .nx s' ∧ ∃ o4 o5, s' = [some td, some (.lst true (fo ++ (sel i ns us).map useD)), some (.lst true pts), some (.int (i : Nat)), o4, o5]
  | [], fo, o4, o5, _, _ => ⟨_, by rw [List.map_nil, x_forL0], o4, o5, by simp [sel]⟩
  | (p, x) :: us, fo, o4, o5, hd, hl => by
    rw [List.length_cons] at hl
    have hp : p.length < 1000 := hd (p, x) (by simp)
    have hs : stepS (tgT' [5, 4]) (M_law_uses_f0 (cU k) (cP k) (cO k)) (useD (p, x)) [some td, some (.lst true fo), some (.lst true pts), some (.int (i : Nat)), o4, o5] = M_law_uses_f0 (cU k) (cP k) (cO k) [some td, some (.lst true fo), some (.lst true pts), some (.int (i : Nat)), some (.str x), some (pathD p)] := by simp [useD, pathD]
    rw [List.map_cons, x_forL, hs]
    by_cases hm : x ∈ ns
    · have h1 : M_law_uses_f0 (cU k) (cP k) (cO k) [some td, some (.lst true fo), some (.lst true pts), some (.int (i : Nat)), some (.str x), some (pathD p)] = .nx [some td, some (.lst true fo), some (.lst true pts), some (.int (i : Nat)), some (.str x), some (pathD p)] := by
        have hy : ixD (.tup [pd, nsD ns]) (.int 1) = some (nsD ns) := rfl
        simp [M_law_uses_f0, hx, hpd, hy, nsD, hm]
        simp [nsD] at hy hx
        simp [hx, hy, hm]
      rw [h1, x_for1]
      obtain ⟨s', e, o4, o5, h2⟩ := uses_l1 hx hpd (us := us) (fo := fo) (o4 := some (.str x)) (o5 := some (pathD p)) (fun u hu => hd u (List.mem_cons_of_mem _ hu)) (by omega)
      refine ⟨s', e, o4, o5, ?_⟩
      rw [h2]
      simp [sel, hm]
    · have h1 : M_law_uses_f0 (cU k) (cP k) (cO k) [some td, some (.lst true fo), some (.lst true pts), some (.int (i : Nat)), some (.str x), some (pathD p)] = .nx [some td, some (.lst true (fo ++ [useD (i :: p, x)])), some (.lst true pts), some (.int (i : Nat)), some (.str x), some (pathD p)] := by
        have hy : ixD (.tup [pd, nsD ns]) (.int 1) = some (nsD ns) := rfl
        have hlt : fo.length < 16000000 := by omega
        have hlp : 1 + p.length ≤ 16000000 := by omega
        have hlp2 : p.length + 1 ≤ 16000000 := by omega
        simp [nsD] at hy hx
        simp [M_law_uses_f0, hx, hy, nsD, hm, hlt, pathD, useD, hlp, hlp2]
      rw [h1, x_for1]
      obtain ⟨s', e, o4, o5, h2⟩ := uses_l1 hx hpd (us := us) (fo := fo ++ [useD (i :: p, x)]) (o4 := some (.str x)) (o5 := some (pathD p)) (fun u hu => hd u (List.mem_cons_of_mem _ hu)) (by rw [List.length_append, List.length_singleton]; omega)
      refine ⟨s', e, o4, o5, ?_⟩
      rw [h2]
      simp [sel, hm]
mutual
theorem LU_path : ∀ (t : Tm) (u : List Nat × Str), u ∈ LU t → u.1.length < t.ht
  | .mk h ts, u, hu => by
    rw [LU, List.mem_append] at hu
    rw [Tm.ht]
    rcases hu with hu | hu
    · obtain ⟨x, _, rfl⟩ := List.mem_map.mp hu
      exact Nat.zero_lt_succ _
    · have := LUs_path 0 ts h.bnd u hu
      omega
theorem LUs_path : ∀ (i : Nat) (ts : List Tm) (bs : List (List Str)) (u : List Nat × Str), u ∈ LUs i ts bs → u.1.length ≤ Tm.hts ts
  | i, [], bs, u, hu => by rw [LUs_nil1] at hu; cases hu
  | i, t :: ts, [], u, hu => by rw [LUs_nil2] at hu; cases hu
  | i, t :: ts, ns :: bs, u, hu => by
    rw [LUs, List.mem_append] at hu
    rw [Tm.hts]
    rcases hu with hu | hu
    · unfold sel at hu
      obtain ⟨v, hv, rfl⟩ := List.mem_map.mp hu
      have := LU_path t v (List.mem_filter.mp hv).1
      simp only [List.length_cons]
      omega
    · have := LUs_path (i + 1) ts bs u hu
      omega
end
theorem getpart {pre : List D} {t : Tm} {ns : List Str} {post : List D} : ixD (.lst false (pre ++ ptD t ns :: post)) (.int ((pre.length : Nat) : Int)) = some (.tup [t.d, nsD ns]) :=
  x_atNat (by rw [List.getElem?_append_right (Nat.le_refl _), Nat.sub_self]; rfl)
theorem uses_l2 {k : Nat} {td : D} {pts : List D} : ∀ {ts : List Tm} {bs : List (List Str)} {pre fo : List D} {o3 o4 o5 : Option D}, pts = pre ++ List.zipWith ptD ts bs → ts.length = bs.length → (∀ t ∈ ts, cU k [t.d] = .ok (.lst true ((LU t).map useD)) [some t.d]) → (∀ t ∈ ts, t.ht < 1000) → fo.length + Tm.cnts ts < 16000000 →
    ∃ s', forL (stepS (tgN 3) (M_law_uses_f1 (cU k) (cP k) (cO k))) ((List.range' pre.length ts.length).map fun (j : Nat) => D.int j) [some td, some (.lst true fo), some (.lst true pts), o3, o4, o5] = .nx s' ∧ ∃ o3 o4 o5, s' = [some td, some (.lst true (fo ++ (LUs pre.length ts bs).map useD)), some (.lst true pts), o3, o4, o5]
  | [], bs, pre, fo, o3, o4, o5, _, _, _, _, _ => ⟨[some td, some (.lst true fo), some (.lst true pts), o3, o4, o5], by simp [List.range'], o3, o4, o5, by rw [LUs_nil1]; simp⟩
  | t :: ts, [], pre, fo, o3, o4, o5, _, hl, _, _, _ => by simp at hl
  | t :: ts, ns :: bs, pre, fo, o3, o4, o5, hp, hl, ih, hh, hc => by
    rw [Tm.cnts] at hc
    rw [List.zipWith_cons_cons] at hp
    have hx : ixD (.lst false pts) (.int ((pre.length : Nat) : Int)) = some (.tup [t.d, nsD ns]) := by rw [hp]; exact getpart
    have h1 := ih t (by simp)
    have hlu := LU_len t
    have hsl := sel_len pre.length ns (LU t)
    obtain ⟨s1, e1, p4, p5, hs1⟩ := uses_l1 (cU := cU) (cP := cP) (cO := cO) (k := k) (td := td) hx (Tm.d_own t) (us := LU t) (fo := fo) (o4 := o4) (o5 := o5) (fun u hu => Nat.lt_trans (LU_path t u hu) (hh t (by simp))) (by omega)
    subst hs1
    have hstep : stepS (tgN 3) (M_law_uses_f1 (cU k) (cP k) (cO k)) (.int ((pre.length : Nat) : Int)) [some td, some (.lst true fo), some (.lst true pts), o3, o4, o5] = .nx [some td, some (.lst true (fo ++ (sel pre.length ns (LU t)).map useD)), some (.lst true pts), some (.int ((pre.length : Nat) : Int)), p4, p5] := by
      have hy : ixD (.tup [t.d, nsD ns]) (.int 0) = some t.d := rfl
      have hpl : plainL ((LU t).map useD) = true := plain_uses
      simp [M_law_uses_f1, hx, hy, h1, hpl, e1]
    have e4 : (List.range' pre.length (t :: ts).length).map (fun (j : Nat) => D.int j) = .int ((pre.length : Nat) : Int) :: (List.range' (pre.length + 1) ts.length).map fun (j : Nat) => D.int j := by
      rw [List.length_cons, List.range'_succ, List.map_cons]
    rw [e4, x_forL, hstep, x_for1]
    obtain ⟨s', e, h2⟩ := uses_l2 (k := k) (td := td) (pts := pts) (ts := ts) (bs := bs) (pre := pre ++ [ptD t ns]) (fo := fo ++ (sel pre.length ns (LU t)).map useD) (o3 := some (.int ((pre.length : Nat) : Int))) (o4 := p4) (o5 := p5) (by rw [List.append_assoc]; exact hp) (by simpa using hl) (fun t' h' => ih t' (List.mem_cons_of_mem _ h')) (fun t' h' => hh t' (List.mem_cons_of_mem _ h')) (by rw [List.length_append, List.length_map]; omega)
    rw [List.length_append, List.length_singleton] at e h2
    refine ⟨s', e, ?_⟩
    rw [LUs, List.map_append, ← List.append_assoc]
    exact h2
theorem lc_uses {k : Nat} {td : D} {xs : List Str} {o1 o2 o3 o5 : Option D} : LcMap (tgN 4) [4] yesT (M_law_uses_e2 (cU k) (cP k) (cO k)) [some td, o1, o2, o3, none, o5] (xs.map D.str) (fun d => .tup [.tup [], d]) := by
  intro d hd
  obtain ⟨x, _, rfl⟩ := List.mem_map.mp hd
  refine ⟨[some td, o1, o2, o3, some (.str x), o5], rfl, fun ds' acc hl => ?_⟩
  simp [M_law_uses_e2, hl]
theorem uses_ok (qU : ∀ k ds, cU (k + 1) ds = calOf (M_law_uses (cU k) (cP k) (cO k)) 6 [true] ds) (qP : ∀ k ds, cP (k + 1) ds = calOf M_law_parts 5 [true] ds) (qO : ∀ k ds, cO (k + 1) ds = calOf M_law_own 1 [true] ds) :
    ∀ (k : Nat) (t : Tm), t.ok = true → t.cnt < 16000000 → t.ht ≤ k → k < 1000 → cU (k + 1) [t.d] = .ok (.lst true ((LU t).map useD)) [some t.d]
  | 0, .mk h ts, _, _, hk, _ => by rw [Tm.ht] at hk; omega
  | k + 1, .mk h ts, ht, hc, hk, hk2 => by
    obtain ⟨hl, hs⟩ := ok_mk ht
    have ha := ok_ar ht
    rw [Tm.ht] at hk
    rw [Tm.cnt] at hc
    have ih : ∀ t ∈ ts, cU (k + 1) [t.d] = .ok (.lst true ((LU t).map useD)) [some t.d] := fun t h => by
      have h1 := cnt_pos ts t h
      have h2 := ht_pos ts t h
      exact uses_ok qU qP qO k t (oks_mem hs h) (by omega) (by omega) (by omega)
    have hh : ∀ t ∈ ts, t.ht < 1000 := fun t h => by
      have h2 := ht_pos ts t h
      omega
    have hP := lawparts_ok qP k (.mk h ts) ht
    have hO := lawown_ok qO k (.mk h ts) ht
    have hbl := Hd.bnd_len h
    have p1 : plainL (h.own.map D.str) = true := plain_strs
    have e0 := lcE_map (gi := plI (seqI (callE (cO (k + 1)) [true] [(nameE 0)]))) (s := [some (Tm.d (.mk h ts)), none, none, none, none, none]) (s1 := [some (Tm.d (.mk h ts)), none, none, none, none, none]) (ds := h.own.map D.str) (by simp [hO, p1, Tm.hd]) rfl (lc_uses (cU := cU) (cP := cP) (cO := cO) (k := k + 1) (td := Tm.d (.mk h ts)) (xs := h.own) (o1 := none) (o2 := none) (o3 := none) (o5 := none)) (by rw [List.length_map]; omega)
    have hown : (h.own.map D.str).map (fun d => D.tup [.tup [], d]) = (h.own.map fun x => (([] : List Nat), x)).map useD := by
      rw [List.map_map, List.map_map]
      rfl
    rw [hown] at e0
    obtain ⟨s1, e1, o3, o4, o5, hs1⟩ := uses_l2 (cU := cU) (cP := cP) (cO := cO) (k := k + 1) (td := Tm.d (.mk h ts)) (pts := List.zipWith ptD ts h.bnd) (ts := ts) (bs := h.bnd) (pre := []) (fo := (h.own.map fun x => (([] : List Nat), x)).map useD) (o3 := none) (o4 := none) (o5 := none) rfl (by omega) ih hh (by rw [List.length_map, List.length_map]; omega)
    subst hs1
    have hlen : (List.zipWith ptD ts h.bnd).length = ts.length := by rw [List.length_zipWith]; omega
    have e2 : upto 0 ts.length = (List.range' ([] : List D).length ts.length).map fun (j : Nat) => D.int j := by
      unfold upto
      rw [List.range_eq_range']
      congr 1
      funext j
      rw [Int.zero_add]
    have a1 : ((ts.length : Nat) : Int) ≤ 1000000000 := by omega
    have a2 : -1000000000 ≤ ((ts.length : Nat) : Int) := by omega
    rw [← e2] at e1
    rw [show Tm.parts (.mk h ts) = List.zipWith ptD ts h.bnd from rfl] at *
    rw [qU, x_calOf, LU]
    simp only [M_law_uses, begS, x_seqS, x_setS, List.map_cons, List.map_nil, List.length_cons, List.length_nil, List.cons_append, List.nil_append, List.replicate, e0]
    rw [List.map_append]
    generalize (h.own.map fun x => (([] : List Nat), x)).map useD = OD at *
    have hmin : min ts.length h.bnd.length = ts.length := by omega
    simp [hP, hlen, a1, a2, e1, hmin]
end
end NS
namespace NS
open PySem PySem.Spec PyProof.Rows L2
/-! ## 29. names along a path -/
def holeT : Tm := .mk .hole []
def BD : Tm → List Nat → List Str
  | _, [] => []
  | .mk h ts, i :: p => h.bnd.getD i [] ++ BD (ts.getD i holeT) p
def VP : Tm → List Nat → Prop
  | _, [] => True
  | .mk h ts, i :: p => i < ts.length ∧ VP (ts.getD i holeT) p
theorem oks_get : ∀ {ts : List Tm} {i : Nat}, Tm.oks ts = true → i < ts.length → (ts.getD i holeT).ok = true
  | [], i, _, h => by cases h
  | t :: ts, 0, e, _ => oks_mem e (by simp)
  | t :: ts, i + 1, e, h => by
    have e : (t.ok && Tm.oks ts) = true := e
    rw [Bool.and_eq_true] at e
    exact oks_get (ts := ts) (i := i) e.2 (by simpa using h)
theorem part_get {ts : List Tm} {bs : List (List Str)} {i : Nat} (h1 : i < ts.length) (h2 : ts.length = bs.length) {b : Bool} : ixD (.lst b (List.zipWith ptD ts bs)) (.int ((i : Nat) : Int)) = some (.tup [(ts.getD i holeT).d, nsD (bs.getD i [])]) := by
  refine x_atNat ?_
  rw [List.getElem?_zipWith, List.getElem?_eq_getElem h1, List.getElem?_eq_getElem (by omega)]
  simp [ptD, h1, show i < bs.length by omega]
theorem BD_len : ∀ (p : List Nat) (t : Tm), t.ok = true → VP t p → (BD t p).length ≤ 100 * p.length
  | [], t, _, _ => by rw [BD]; exact Nat.zero_le _
  | i :: p, .mk h ts, ht, hv => by
    have h1 := fine_bnd (ok_fine ht) i
    have h2 := BD_len p (ts.getD i holeT) (oks_get (ok_mk ht).2 hv.1) hv.2
    rw [BD, List.length_append, List.length_cons]
    omega
section
variable {cU cP cB cFr : Nat → List D → CR}
theorem lawfree_ok {cU : Nat → List D → CR} (qFr : ∀ k ds, cFr (k + 1) ds = calOf (M_law_free (cU k)) 3 [true] ds) {k : Nat} {t : Tm} (hc : t.cnt < 16000000) (hU : cU k [t.d] = .ok (.lst true ((LU t).map useD)) [some t.d]) : cFr (k + 1) [t.d] = .ok (.lst true ((LU t).map fun u => D.str u.2)) [some t.d] := by
  have hl := LU_len t
  have p1 : plainL ((LU t).map useD) = true := plain_uses
  have e0 := lcE_map (c := yesT) (f := M_law_free_e0 (cU k)) (tt := tgT' [1, 2]) (vs := [1, 2]) (gi := plI (seqI (callE (cU k) [true] [(nameE 0)]))) (s := [some t.d, none, none]) (s1 := [some t.d, none, none]) (s0 := [some t.d, none, none]) (ds := (LU t).map useD) (g := fun d => match d with
      | .tup [_, x] => x
      | _ => .non) (by simp [hU, p1]) rfl (fun d hd => by
    obtain ⟨⟨p, x⟩, _, rfl⟩ := List.mem_map.mp hd
    refine ⟨[some t.d, some (pathD p), some (.str x)], rfl, fun ds' acc hl => ?_⟩
    simp [M_law_free_e0, hl, useD, pathD]) (by rw [List.length_map]; omega)
  rw [qFr, x_calOf]
  simp [M_law_free, begS, e0, useD]
theorem bound_l {k : Nat} (qP : ∀ k ds, cP (k + 1) ds = calOf M_law_parts 5 [true] ds) {pd : D} : ∀ {p : List Nat} {t : Tm} {ns : List Str} {o3 o4 : Option D}, t.ok = true → VP t p → ns.length + (BD t p).length ≤ 16000000 →
    ∃ s', forL (stepS (tgN 3) (M_law_bound_f0 (cP (k + 1)))) (p.map fun (i : Nat) => D.int i) [some t.d, some pd, some (.lst true (ns.map .str)), o3, o4] = .nx s' ∧ ∃ o0 o3 o4, s' = [o0, some pd, some (.lst true ((ns ++ BD t p).map .str)), o3, o4]
  | [], t, ns, o3, o4, _, _, _ => ⟨[some t.d, some pd, some (.lst true (ns.map .str)), o3, o4], by simp, some t.d, o3, o4, by rw [BD, List.append_nil]⟩
  | i :: p, .mk h ts, ns, o3, o4, ht, hv, hl => by
    obtain ⟨hlen, hs⟩ := ok_mk ht
    have hbl := Hd.bnd_len h
    rw [BD, List.length_append] at hl
    obtain ⟨hi, hv⟩ := hv
    have hP := lawparts_ok qP k (.mk h ts) ht
    rw [show Tm.parts (.mk h ts) = List.zipWith ptD ts h.bnd from rfl] at hP
    have hx := part_get (b := true) hi (show ts.length = h.bnd.length by omega)
    have hx' := part_get (b := false) hi (show ts.length = h.bnd.length by omega)
    have h1 : ixD (.tup [(ts.getD i holeT).d, nsD (h.bnd.getD i [])]) (.int 0) = some (ts.getD i holeT).d := rfl
    have h2 : ixD (.tup [(ts.getD i holeT).d, nsD (h.bnd.getD i [])]) (.int 1) = some (nsD (h.bnd.getD i [])) := rfl
    have ho : (ts.getD i holeT).d.own = false := Tm.d_own _
    have hf : (ts.getD i holeT).d.frz = (ts.getD i holeT).d := Tm.d_frz _
    have hz : ns.length + (h.bnd.getD i []).length ≤ 16000000 := by omega
    obtain ⟨s', e, h3⟩ := bound_l (k := k) qP (pd := pd) (p := p) (t := ts.getD i holeT) (ns := ns ++ h.bnd.getD i []) (o3 := some (.int (i : Nat))) (o4 := some (.tup [(ts.getD i holeT).d, nsD (h.bnd.getD i [])])) (oks_get hs hi) hv (by rw [List.length_append]; omega)
    rw [BD, ← List.append_assoc]
    generalize ts.getD i holeT = ti at *
    generalize h.bnd.getD i [] = bi at *
    have hstep : stepS (tgN 3) (M_law_bound_f0 (cP (k + 1))) (.int (i : Nat)) [some (Tm.d (.mk h ts)), some pd, some (.lst true (ns.map .str)), o3, o4] = .nx [some ti.d, some pd, some (.lst true ((ns ++ bi).map .str)), some (.int (i : Nat)), some (.tup [ti.d, nsD bi])] := by
      simp [nsD] at h1 h2 hx hx'
      simp [M_law_bound_f0, hP, hx, hx', h1, h2, nsD, hz]
    rw [List.map_cons, x_forL, hstep, x_for1]
    refine ⟨s', e, ?_⟩
    exact h3
theorem bound_ok (qB : ∀ k ds, cB (k + 1) ds = calOf (M_law_bound (cP k)) 5 [false, true] ds) (qP : ∀ k ds, cP (k + 1) ds = calOf M_law_parts 5 [true] ds) {k : Nat} {t : Tm} {p : List Nat} (ht : t.ok = true) (hv : VP t p) (hp : p.length ≤ 1000) : cB (k + 2) [t.d, pathD p] = .ok (.lst true ((BD t p).map .str)) [none, some (pathD p)] := by
  have hb := BD_len p t ht hv
  obtain ⟨s', e, o0, o3, o4, h3⟩ := bound_l (cP := cP) (k := k) qP (pd := pathD p) (p := p) (t := t) (ns := []) (o3 := none) (o4 := none) ht hv (by simp; omega)
  subst h3
  rw [qB, x_calOf]
  have p1 : plainL (p.map fun (i : Nat) => D.int i) = true := plain_of fun d hd => by
    obtain ⟨x, _, rfl⟩ := List.mem_map.mp hd
    rfl
  simp only [pathD] at e
  simp [M_law_bound, begS, pathD, p1]
  simp at e
  rw [e]
  simp
end
end NS
namespace NS
open PySem PySem.Spec PyProof.Rows L2
/-! ## 30. what the laws draw -/
section
variable {cD cS cF cN cM cU cQ : Nat → List D → CR}
/-- a function of the pool alone -/
def PoolFn (c : Nat → List D → CR) (k : Nat) (A : Pool → D → Pool → Prop) : Prop := ∀ p : Pool, ∃ d q, c k [p.d] = .ok d [some (Pool.d q)] ∧ A p d q
theorem drawF (q : ∀ k ds, cD (k + 1) ds = calOf M_law_draw 4 [true, true] ds) (k : Nat) (p : Pool) (n : Int) (h0 : 0 < n) (h1 : n < 1073741824) : cD (k + 1) [p.d, .int n] = .ok (.int (p.val n)) [some (p.nxt n).d, some (.int n)] := by
  rw [q]
  exact draw_eq p n h0 h1
theorem spend_ok (q : ∀ k ds, cS (k + 1) ds = calOf M_law_spend 1 [true] ds) (k : Nat) (p : Pool) : cS (k + 1) [p.d] = .ok (.bl (decide (0 ≤ p.bud - 1))) [some (Pool.d { p with bud := p.bud - 1 })] := by
  rw [q, x_calOf]
  simp [M_law_spend, begS, Pool.d, ixD, L2.atI, ixN]
theorem number_ok (qQ : ∀ k ds, cQ (k + 1) ds = calOf (M_law_number (cD k)) 1 [true] ds) (qD : ∀ k ds, cD (k + 1) ds = calOf M_law_draw 4 [true, true] ds) (k : Nat) (p : Pool) : ∃ v q, cQ (k + 2) [p.d] = .ok (.int v) [some (Pool.d q)] ∧ 0 ≤ v ∧ v < 65536 ∧ q.bud = p.bud := by
  have hd := fun p n h0 h1 => drawF qD k p n h0 h1
  rw [qQ, x_calOf]
  by_cases h : p.val 3 = 0
  · refine ⟨(p.nxt 3).val 65536, (p.nxt 3).nxt 65536, ?_, Pool.val_nn _ _ (by decide) (by decide), Pool.val_lt _ _ (by decide) (by decide), by simp⟩
    simp [M_law_number, begS, hd, h]
  · refine ⟨(p.nxt 3).val 9, (p.nxt 3).nxt 9, ?_, Pool.val_nn _ _ (by decide) (by decide), Int.lt_trans (Pool.val_lt _ _ (by decide) (by decide)) (by decide), by simp⟩
    simp [M_law_number, begS, hd, h]
theorem x_min {m n : Int} : BI.op .min [.int m, .int n] = some (.int (if n < m then n else m)) := rfl
theorem few_ok (qF : ∀ k ds, cF (k + 1) ds = calOf (M_law_few (cD k)) 3 [true, true] ds) (qD : ∀ k ds, cD (k + 1) ds = calOf M_law_draw 4 [true, true] ds) (k : Nat) (p : Pool) (m : Int) (h0 : 0 ≤ m) (h1 : m < 16000000) : ∃ v q, cF (k + 2) [p.d, .int m] = .ok (.int v) [some (Pool.d q), some (.int m)] ∧ 0 ≤ v ∧ v ≤ m ∧ q.bud = p.bud := by
  have hd := fun p n h0 h1 => drawF qD k p n h0 h1
  have a1 := p.val_nn 4 (by decide) (by decide)
  rw [qF, x_calOf]
  by_cases h : p.val 4 = 3
  · have z0 : 0 < m + 1 := by omega
    have z1 : m + 1 < 1073741824 := by omega
    have b1 := (p.nxt 4).val_nn (m + 1) z0 z1
    have b2 := (p.nxt 4).val_lt (m + 1) z0 z1
    refine ⟨(p.nxt 4).val (m + 1), (p.nxt 4).nxt (m + 1), ?_, b1, by omega, by simp⟩
    simp [M_law_few, begS, hd, h, z0, z1]
  · refine ⟨if m < p.val 4 then m else p.val 4, p.nxt 4, ?_, ?_, ?_, by simp⟩
    · simp [M_law_few, begS, hd, h, x_min]
    · split <;> omega
    · split <;> omega
/-- a sign of a text -/
theorem str_ix {z : Str} {i : Int} {n : Nat} (hn : z.cps.toList.length = n) (hz : fits z.length = true) (h0 : 0 ≤ i) (h1 : i < n) : ∃ c, ixD (.str z) (.int i) = some (.str ⟨#[c]⟩) ∧ c ∈ z.cps.toList := by
  have hi : i.toNat < z.cps.toList.length := by omega
  refine ⟨z.cps.toList[i.toNat], ?_, List.getElem_mem hi⟩
  have e : L2.atI z.cps.toList i = some z.cps.toList[i.toNat] := by
    have e2 : ixN z.cps.toList.length i = some i.toNat := by
      obtain ⟨m, rfl⟩ := Int.eq_ofNat_of_zero_le h0
      unfold ixN
      simp only [Int.toNat_natCast] at hi ⊢
      first
        | (simp [hi]; done)
        | (split <;> simp_all <;> omega)
    show (ixN z.cps.toList.length i).bind (fun j => z.cps.toList[j]?) = _
    rw [e2]
    exact List.getElem?_eq_getElem hi
  show (if fits z.length then (L2.atI z.cps.toList i).map fun c => D.str ⟨#[c]⟩ else none) = _
  rw [if_pos hz, e]
  rfl
theorem x_addS {a b : Str} (h : a.length + b.length ≤ 16000000) : binD .Add (.str a) (.str b) = some (.str (a ++ b)) := if_pos (fits_of h)
theorem len_app (a b : Str) : (a ++ b).length = a.length + b.length := by
  show (a.cps ++ b.cps).size = a.cps.size + b.cps.size
  exact Array.size_append
theorem len_one (c : Nat) : (⟨#[c]⟩ : Str).length = 1 := rfl
def keysL : List Str := ["fun", "call", "let", "in", "make", "case", "of", "end", "ifzero", "tick", "waste", "hole"]
def lowC (c : Nat) : Bool := Nat.ble 97 c && Nat.ble c 122
def uppC (c : Nat) : Bool := Nat.ble 65 c && Nat.ble c 90
/-- a name: 1 to 6 small letters, no word of the language -/
structure IsNm (x : Str) : Prop where
  lo : 1 ≤ x.length
  hi : x.length ≤ 6
  let_ : ∀ c ∈ x.cps.toList, lowC c = true
  key : x ∉ keysL
/-- a constructor: 1 to 6 capital letters -/
structure IsMk (x : Str) : Prop where
  lo : 1 ≤ x.length
  hi : x.length ≤ 6
  let_ : ∀ c ∈ x.cps.toList, uppC c = true
theorem cps_app (a b : Str) : (a ++ b).cps.toList = a.cps.toList ++ b.cps.toList := by
  show (a.cps ++ b.cps).toList = _
  exact Array.toList_append
theorem key_len : ∀ x ∈ keysL, 2 ≤ x.length := by decide
theorem low7 : ∀ c ∈ ("abcdxyz" : Str).cps.toList, lowC c = true := by decide
theorem low26 : ∀ c ∈ ("abcdefghijklmnopqrstuvwxyz" : Str).cps.toList, lowC c = true := by decide
theorem upp26 : ∀ c ∈ ("ABCDEFGHIJKLMNOPQRSTUVWXYZ" : Str).cps.toList, uppC c = true := by decide
theorem name_ok (qN : ∀ k ds, cN (k + 1) ds = calOf (M_law_name (cD k)) 3 [true] ds) (qD : ∀ k ds, cD (k + 1) ds = calOf M_law_draw 4 [true, true] ds) (k : Nat) (p : Pool) : ∃ (x : Str) (q : Pool), cN (k + 2) [p.d] = .ok (.str x) [some q.d] ∧ IsNm x ∧ q.bud = p.bud := by
  have hd := fun p n h0 h1 => drawF qD k p n h0 h1
  rw [qN, x_calOf]
  by_cases h : 0 < p.val 4
  · obtain ⟨c, hc, hm⟩ := str_ix (z := "abcdxyz") (n := 7) (by decide) (by decide) ((p.nxt 4).val_nn 7 (by decide) (by decide)) ((p.nxt 4).val_lt 7 (by decide) (by decide))
    refine ⟨⟨#[c]⟩, (p.nxt 4).nxt 7, ?_, ⟨Nat.le_refl _, by show 1 ≤ 6; decide, fun c' hc' => ?_, fun z => ?_⟩, by simp⟩
    · simp [M_law_name, begS, hd, h, hc]
    · have e : c' = c := by simpa using hc'
      rw [e]
      exact low7 c hm
    · have := key_len _ z
      rw [len_one] at this
      omega
  · have a0 := (p.nxt 4).val_nn 6 (by decide) (by decide)
    have a1 := (p.nxt 4).val_lt 6 (by decide) (by decide)
    obtain ⟨s', e, q, x, o, hs, hx, hl, hb⟩ := forL_fold (step := stepS (tgN 2) (M_law_name_f0 (cD (k + 1)))) (st := fun j (_ : Unit) s => ∃ (q : Pool) (x : Str) (o : Option D), s = [some q.d, some (.str x), o] ∧ x.length = j ∧ (∀ c ∈ x.cps.toList, lowC c = true) ∧ q.bud = p.bud) (up := fun _ _ => ()) (ds := upto 0 (1 + (p.nxt 4).val 6).toNat) (off := 0) (a := ()) (s := [some ((p.nxt 4).nxt 6).d, some (.str ""), none]) (fun j hj _ s ⟨q, x, o, z1, z2, z3, z4⟩ => by
      subst z1
      obtain ⟨c, hc, hm⟩ := str_ix (z := "abcdefghijklmnopqrstuvwxyz") (n := 26) (by decide) (by decide) (q.val_nn 26 (by decide) (by decide)) (q.val_lt 26 (by decide) (by decide))
      have hj2 : j < 7 := by
        unfold upto at hj
        rw [List.length_map, List.length_range] at hj
        omega
      have hlen : x.length + (⟨#[c]⟩ : Str).length ≤ 16000000 := by rw [len_one]; omega
      simp [M_law_name_f0, hd, hc, x_addS hlen]
      exact ⟨q.nxt 26, x ++ ⟨#[c]⟩, ⟨rfl, rfl⟩, by rw [len_app, len_one]; omega, fun c' hc' => by
        have hc' : c' ∈ (x ++ (⟨#[c]⟩ : Str)).cps.toList := by simpa using hc'
        rw [cps_app, List.mem_append] at hc'
        rcases hc' with hc' | hc'
        · exact z3 c' hc'
        · have e : c' = c := by simpa using hc'
          rw [e]
          exact low26 c hm, by simp [z4]⟩) ⟨_, _, _, rfl, rfl, (fun c hc => by cases hc), by simp⟩
    subst hs
    have hn : (upto 0 (1 + (p.nxt 4).val 6).toNat).length = (1 + (p.nxt 4).val 6).toNat := by
      unfold upto
      rw [List.length_map, List.length_range]
    rw [hn] at hx
    have b1 : (1 + (p.nxt 4).val 6) ≤ 1000000000 := by omega
    have b2 : -1000000000 ≤ (1 + (p.nxt 4).val 6) := by omega
    by_cases hk : x ∈ keysL
    · refine ⟨"q", q, ?_, ⟨by decide, by decide, by decide, by decide⟩, hb⟩
      have hk2 : cmpB .In (.str x) (.tup (keysL.map .str)) = some true := by rw [x_in1 x_all2, x_any2, decide_eq_true hk]
      simp only [keysL, List.map_cons, List.map_nil] at hk2
      simp [M_law_name, begS, hd, h, b1, b2, e, hk2, -x_in1]
    · refine ⟨x, q, ?_, ⟨by omega, by omega, hl, hk⟩, hb⟩
      have hk2 : cmpB .In (.str x) (.tup (keysL.map .str)) = some false := by rw [x_in1 x_all2, x_any2, decide_eq_false hk]
      simp only [keysL, List.map_cons, List.map_nil] at hk2
      simp [M_law_name, begS, hd, h, b1, b2, e, hk2, -x_in1]
end
end NS
namespace NS
open PySem PySem.Spec PyProof.Rows L2
theorem pigeon : ∀ {os ns : List Str}, os.Nodup → (∀ o ∈ os, o ∈ ns) → os.length ≤ ns.length
  | [], ns, _, _ => Nat.zero_le _
  | o :: os, ns, hn, h => by
    obtain ⟨h1, h2⟩ := List.nodup_cons.mp hn
    have ho := h o (by simp)
    have := pigeon (os := os) (ns := ns.erase o) h2 fun x hx => by
      have hne : x ≠ o := fun e => h1 (e ▸ hx)
      exact (List.mem_erase_of_ne hne).mpr (h x (List.mem_cons_of_mem _ hx))
    rw [List.length_erase_of_mem ho] at this
    have hp : 0 < ns.length := List.length_pos_of_mem ho
    rw [List.length_cons]
    omega
def swp (ns : List Str) (x o : Str) : Str := if x ∈ ns then o else x
theorem swp_in {ns : List Str} : ∀ {os : List Str} {x : Str}, os.foldl (swp ns) x ∈ ns → ∀ o ∈ x :: os, o ∈ ns
  | [], x, h, o, ho => by
    cases List.mem_singleton.mp ho
    exact h
  | a :: os, x, h, o, ho => by
    rw [List.foldl_cons] at h
    have z := swp_in h
    by_cases hx : x ∈ ns
    · have e : swp ns x a = a := if_pos hx
      rw [e] at z
      rcases List.mem_cons.mp ho with rfl | ho
      · exact hx
      · exact z o ho
    · have e : swp ns x a = x := if_neg hx
      rw [e] at z
      exact (hx (z x (by simp))).elim
theorem swp_or {ns : List Str} : ∀ {os : List Str} {x : Str}, os.foldl (swp ns) x = x ∨ os.foldl (swp ns) x ∈ os
  | [], x => .inl rfl
  | a :: os, x => by
    rw [List.foldl_cons]
    rcases swp_or (ns := ns) (os := os) (x := swp ns x a) with e | e
    · rw [e]
      unfold swp
      split
      · exact .inr (by simp)
      · exact .inl rfl
    · exact .inr (List.mem_cons_of_mem _ e)
def five : List Str := ["mm", "nn", "oo", "pp", "qq"]
section
variable {cD cN cM cU cF : Nat → List D → CR}
theorem unl_l {k : Nat} {pd o1 o3 : Option D} {ns : List Str} : ∀ {os : List Str} {x : Str} {o5 : Option D}, ∃ o5', forL (stepS (tgN 5) (M_law_unlike_f0 (cN k))) (os.map D.str) [pd, o1, some (.lst true (ns.map .str)), o3, some (.str x), o5] = .nx [pd, o1, some (.lst true (ns.map .str)), o3, some (.str (os.foldl (swp ns) x)), o5']
  | [], x, o5 => ⟨o5, rfl⟩
  | a :: os, x, o5 => by
    obtain ⟨o, e⟩ := unl_l (k := k) (pd := pd) (o1 := o1) (o3 := o3) (ns := ns) (os := os) (x := swp ns x a) (o5 := some (.str a))
    refine ⟨o, ?_⟩
    have h : stepS (tgN 5) (M_law_unlike_f0 (cN k)) (.str a) [pd, o1, some (.lst true (ns.map .str)), o3, some (.str x), o5] = .nx [pd, o1, some (.lst true (ns.map .str)), o3, some (.str (swp ns x a)), some (.str a)] := by
      by_cases hx : x ∈ ns
      · simp [M_law_unlike_f0, hx, swp]
      · simp [M_law_unlike_f0, hx, swp]
    rw [List.map_cons, x_forL, h, x_for1, e, List.foldl_cons]
theorem five_nm : ∀ x ∈ five, IsNm x := by
  intro x hx
  have h1 : ∀ x ∈ five, 1 ≤ x.length ∧ x.length ≤ 6 ∧ (∀ c ∈ x.cps.toList, lowC c = true) ∧ x ∉ keysL := by decide
  obtain ⟨a, b, c, d⟩ := h1 x hx
  exact ⟨a, b, c, d⟩
theorem unlike_ok (qU : ∀ k ds, cU (k + 1) ds = calOf (M_law_unlike (cN k)) 6 [true, true] ds) (qN : ∀ k ds, cN (k + 1) ds = calOf (M_law_name (cD k)) 3 [true] ds) (qD : ∀ k ds, cD (k + 1) ds = calOf M_law_draw 4 [true, true] ds) (k : Nat) (p : Pool) (n : Nat) (h : n ≤ 5) :
    ∃ (xs : List Str) (q : Pool), cU (k + 3) [p.d, .int (n : Nat)] = .ok (.lst true (xs.map .str)) [some q.d, some (.int (n : Nat))] ∧ xs.length = n ∧ xs.Nodup ∧ (∀ x ∈ xs, IsNm x) ∧ q.bud = p.bud := by
  rw [qU, x_calOf]
  obtain ⟨s', e, q, xs, o3, o4, o5, hs, hl, hn, hx, hb⟩ := forL_fold (step := stepS (tgN 3) (M_law_unlike_f1 (cN (k + 2)))) (st := fun j (_ : Unit) s => ∃ (q : Pool) (xs : List Str) (o3 o4 o5 : Option D), s = [some q.d, some (.int (n : Nat)), some (.lst true (xs.map .str)), o3, o4, o5] ∧ xs.length = j ∧ xs.Nodup ∧ (∀ x ∈ xs, IsNm x) ∧ q.bud = p.bud) (up := fun _ _ => ()) (ds := upto 0 n) (off := 0) (a := ()) (s := [some p.d, some (.int (n : Nat)), some (.lst true []), none, none, none]) (fun j hj _ s ⟨q, xs, o3, o4, o5, z1, z2, z3, z4, z5⟩ => by
    subst z1
    have hj2 : j < n := by
      unfold upto at hj
      rw [List.length_map, List.length_range] at hj
      exact hj
    obtain ⟨x, q2, e1, hx, hb⟩ := name_ok qN qD k q
    obtain ⟨o5', e2⟩ := unl_l (cN := cN) (k := k + 2) (pd := some q2.d) (o1 := some (.int (n : Nat))) (o3 := some (upto 0 n)[j]) (ns := xs) (os := five) (x := x) (o5 := o5)
    have hlt : xs.length < 16000000 := by omega
    have hne : five.foldl (swp xs) x ∉ xs := fun z => by
      have := pigeon (os := five) (ns := xs) (by decide) fun o ho => swp_in z o (List.mem_cons_of_mem _ ho)
      have h5 : five.length = 5 := rfl
      omega
    simp only [five, List.map_cons, List.map_nil] at e2
    refine show Fl.on _ _ from ?_
    simp [M_law_unlike_f1, e1, e2, hlt]
    refine ⟨q2, xs ++ [five.foldl (swp xs) x], ⟨rfl, by simp [five]⟩, by rw [List.length_append, List.length_singleton]; omega, ?_, ?_, by rw [hb, z5]⟩
    · rw [List.nodup_append]
      refine ⟨z3, by simp, fun a ha b hb => ?_⟩
      rw [List.mem_singleton.mp hb]
      exact fun e => hne (e ▸ ha)
    · intro y hy
      rcases List.mem_append.mp hy with hy | hy
      · exact z4 y hy
      · rw [List.mem_singleton.mp hy]
        rcases swp_or (ns := xs) (os := five) (x := x) with e | e
        · rw [e]; exact hx
        · exact five_nm _ e) ⟨p, [], _, _, _, rfl, rfl, List.nodup_nil, (fun x hx => by cases hx), rfl⟩
  subst hs
  have hlen : (upto 0 n).length = n := by
    unfold upto
    rw [List.length_map, List.length_range]
  have b1 : ((n : Nat) : Int) ≤ 1000000000 := by omega
  have b2 : -1000000000 ≤ ((n : Nat) : Int) := by omega
  refine ⟨xs, q, ?_, by omega, hn, hx, hb⟩
  simp [M_law_unlike, begS, b1, b2, e]
theorem made_ok (qM : ∀ k ds, cM (k + 1) ds = calOf (M_law_made (cF k) (cD k)) 3 [true] ds) (qF : ∀ k ds, cF (k + 1) ds = calOf (M_law_few (cD k)) 3 [true, true] ds) (qD : ∀ k ds, cD (k + 1) ds = calOf M_law_draw 4 [true, true] ds) (k : Nat) (p : Pool) :
    ∃ (x : Str) (q : Pool), cM (k + 3) [p.d] = .ok (.str x) [some q.d] ∧ IsMk x ∧ q.bud = p.bud := by
  have hd := fun p n h0 h1 => drawF qD (k + 1) p n h0 h1
  rw [qM, x_calOf]
  obtain ⟨v, p1, e1, v0, v1, vb⟩ := few_ok qF qD k p 5 (by decide) (by decide)
  obtain ⟨s', e, q, x, o, hs, hx, hl, hb⟩ := forL_fold (step := stepS (tgN 2) (M_law_made_f0 (cF (k + 2)) (cD (k + 2)))) (st := fun j (_ : Unit) s => ∃ (q : Pool) (x : Str) (o : Option D), s = [some q.d, some (.str x), o] ∧ x.length = j ∧ (∀ c ∈ x.cps.toList, uppC c = true) ∧ q.bud = p.bud) (up := fun _ _ => ()) (ds := upto 0 (1 + v).toNat) (off := 0) (a := ()) (s := [some p1.d, some (.str ""), none]) (fun j hj _ s ⟨q, x, o, z1, z2, z3, z4⟩ => by
    subst z1
    obtain ⟨c, hc, hm⟩ := str_ix (z := "ABCDEFGHIJKLMNOPQRSTUVWXYZ") (n := 26) (by decide) (by decide) (q.val_nn 26 (by decide) (by decide)) (q.val_lt 26 (by decide) (by decide))
    have hj2 : j < 7 := by
      unfold upto at hj
      rw [List.length_map, List.length_range] at hj
      omega
    have hlen : x.length + (⟨#[c]⟩ : Str).length ≤ 16000000 := by rw [len_one]; omega
    simp [M_law_made_f0, hd, hc, x_addS hlen]
    exact ⟨q.nxt 26, x ++ ⟨#[c]⟩, ⟨rfl, rfl⟩, by rw [len_app, len_one]; omega, fun c' hc' => by
      have hc' : c' ∈ (x ++ (⟨#[c]⟩ : Str)).cps.toList := by simpa using hc'
      rw [cps_app, List.mem_append] at hc'
      rcases hc' with hc' | hc'
      · exact z3 c' hc'
      · have e : c' = c := by simpa using hc'
        rw [e]
        exact upp26 c hm, by simp [z4]⟩) ⟨_, _, _, rfl, rfl, (fun c hc => by cases hc), vb⟩
  subst hs
  have hn : (upto 0 (1 + v).toNat).length = (1 + v).toNat := by
    unfold upto
    rw [List.length_map, List.length_range]
  rw [hn] at hx
  have b1 : (1 + v) ≤ 1000000000 := by omega
  have b2 : -1000000000 ≤ (1 + v) := by omega
  refine ⟨x, q, ?_, ⟨by omega, by omega, hl⟩, hb⟩
  simp [M_law_made, begS, e1, b1, b2, e]
end
end NS
namespace NS
open PySem PySem.Spec PyProof.Rows L2
/-! ## 31. terms as the laws draw them -/
structure RowOk (r : Str × List Str) : Prop where
  cn : IsMk r.1
  few : r.2.length ≤ 4
  nd : r.2.Nodup
  nm : ∀ x ∈ r.2, IsNm x
def Hd.gd : Hd → Prop
  | .var x => IsNm x
  | .num n => 0 ≤ n ∧ n < 65536
  | .make c xs => IsMk c ∧ xs.length ≤ 4 ∧ ∀ x ∈ xs, IsNm x
  | .hole => True
  | .fn x => IsNm x
  | .call x => IsNm x
  | .lets xs => 1 ≤ xs.length ∧ xs.length ≤ 4 ∧ xs.Nodup ∧ ∀ x ∈ xs, IsNm x
  | .case rows => 1 ≤ rows.length ∧ rows.length ≤ 4 ∧ (rows.map (·.1)).Nodup ∧ ∀ r ∈ rows, RowOk r
  | .flat _ => True
mutual
def Tm.gd : Tm → Prop
  | .mk h ts => h.gd ∧ ts.length = h.ar ∧ Tm.gds ts
def Tm.gds : List Tm → Prop
  | [] => True
  | t :: ts => t.gd ∧ Tm.gds ts
end
theorem gd_fine {h : Hd} (g : h.gd) : h.fine = true := by
  unfold Hd.fine
  rw [Bool.and_eq_true, Bool.and_eq_true]
  cases h with
  | var x => exact ⟨rfl, rfl, rfl⟩
  | num n => exact ⟨rfl, rfl, rfl⟩
  | hole => exact ⟨rfl, rfl, rfl⟩
  | fn x => exact ⟨rfl, rfl, rfl⟩
  | call x => exact ⟨rfl, rfl, rfl⟩
  | make c xs => exact ⟨rfl, rfl, Nat.ble_eq.mpr (Nat.le_trans g.2.1 (by decide))⟩
  | flat k => cases k <;> exact ⟨rfl, rfl, rfl⟩
  | lets xs =>
    have h4 : xs.length ≤ 4 := g.2.1
    refine ⟨Nat.ble_eq.mpr ?_, ?_, rfl⟩
    · show xs.length + 1 ≤ 100
      omega
    · rw [List.all_eq_true]
      intro b hb
      rw [(List.mem_replicate.mp hb).2]
      exact Nat.ble_eq.mpr (by omega)
  | case rows =>
    have h4 : rows.length ≤ 4 := g.2.1
    refine ⟨Nat.ble_eq.mpr ?_, ?_, rfl⟩
    · show rows.length + 1 ≤ 100
      omega
    · rw [List.all_eq_true]
      intro b hb
      rcases List.mem_cons.mp hb with rfl | hb
      · rfl
      · obtain ⟨r, hr, rfl⟩ := List.mem_map.mp hb
        have := (g.2.2.2 r hr).few
        exact Nat.ble_eq.mpr (by omega)
mutual
theorem gd_ok : ∀ t : Tm, t.gd → t.ok = true
  | .mk h ts, g => by
    have g : h.gd ∧ ts.length = h.ar ∧ Tm.gds ts := g
    show (Nat.beq ts.length h.ar && (h.fine && Tm.oks ts)) = true
    rw [gd_fine g.1, gds_oks ts g.2.2, g.2.1, Nat.beq_refl]
    rfl
theorem gds_oks : ∀ ts : List Tm, Tm.gds ts → Tm.oks ts = true
  | [], _ => rfl
  | t :: ts, g => by
    have g : t.gd ∧ Tm.gds ts := g
    show (t.ok && Tm.oks ts) = true
    rw [gd_ok t g.1, gds_oks ts g.2]
    rfl
end
theorem ds_app : ∀ (ts us : List Tm), Tm.ds (ts ++ us) = Tm.ds ts ++ Tm.ds us
  | [], us => rfl
  | t :: ts, us => congrArg (t.d :: ·) (ds_app ts us)
theorem gds_app : ∀ {ts us : List Tm}, Tm.gds ts → Tm.gds us → Tm.gds (ts ++ us)
  | [], us, _, h => h
  | t :: ts, us, h, h' => ⟨h.1, gds_app h.2 h'⟩
theorem cnts_app : ∀ (ts us : List Tm), Tm.cnts (ts ++ us) = Tm.cnts ts + Tm.cnts us
  | [], us => by rw [List.nil_append, Tm.cnts, Nat.zero_add]
  | t :: ts, us => by rw [List.cons_append, Tm.cnts, Tm.cnts, cnts_app ts us, Nat.add_assoc]
theorem hts_le {n : Nat} : ∀ {ts : List Tm}, (∀ t ∈ ts, t.ht ≤ n) → Tm.hts ts ≤ n
  | [], _ => Nat.zero_le _
  | t :: ts, h => by
    rw [Tm.hts]
    exact Nat.max_le.mpr ⟨h t (by simp), hts_le fun t' h' => h t' (List.mem_cons_of_mem _ h')⟩
theorem cnts_le {n : Nat} : ∀ {ts : List Tm}, (∀ t ∈ ts, t.cnt ≤ n) → Tm.cnts ts ≤ ts.length * n
  | [], _ => Nat.zero_le _
  | t :: ts, h => by
    have h1 := h t (by simp)
    have h2 := cnts_le (n := n) (ts := ts) fun t' h' => h t' (List.mem_cons_of_mem _ h')
    rw [Tm.cnts, List.length_cons, Nat.succ_mul]
    omega
theorem gds_of : ∀ {ts : List Tm}, (∀ t ∈ ts, t.gd) → Tm.gds ts
  | [], _ => trivial
  | t :: ts, h => ⟨h t (by simp), gds_of fun t' h' => h t' (List.mem_cons_of_mem _ h')⟩
theorem lets_d {xs : List Str} {ts : List Tm} {b : Tm} (h : ts.length = xs.length) : Tm.d (.mk (.lets xs) (ts ++ [b])) = .tup [.str "let", .tup (rowsD xs ts), b.d] := by
  have e1 : ∀ {xs : List Str} {ts : List Tm}, ts.length = xs.length → List.zipWith (fun x d => D.tup [.str x, d]) xs (Tm.ds (ts ++ [b])) = rowsD xs ts := by
    intro xs
    induction xs with
    | nil => intro ts h; rfl
    | cons x xs ih =>
      intro ts h
      cases ts with
      | nil => cases h
      | cons t ts => exact congrArg (D.tup [.str x, t.d] :: ·) (ih (by simpa using h))
  have e2 : (Tm.ds (ts ++ [b])).getD xs.length .non = b.d := by
    rw [ds_app]
    have hl := ds_len ts
    rw [List.getD, ← h, ← hl, List.getElem?_append_right (Nat.le_refl _), Nat.sub_self]
    rfl
  rw [Tm.d]
  show D.tup [.str "let", .tup (List.zipWith _ xs (Tm.ds (ts ++ [b]))), (Tm.ds (ts ++ [b])).getD xs.length .non] = _
  rw [e1 h, e2]
theorem case_d {rows : List (Str × List Str)} {s : Tm} {ts : List Tm} : Tm.d (.mk (.case rows) (s :: ts)) = .tup [.str "case", s.d, .tup (casesD rows ts)] := by
  rw [Tm.d]
  rfl
theorem flat_d {f : Fk} {ts : List Tm} : Tm.d (.mk (.flat f) ts) = .tup (.str f.s :: Tm.ds ts) := by
  rw [Tm.d]
  rfl
end NS
namespace NS
open PySem PySem.Spec PyProof.Rows L2
/-! ## 32. a drawn term -/
def anyLeaf (c__law_any c__law_draw c__law_made c__law_unlike c__law_name c__law_spend c__law_number : List D → CR) : Sl → Fl :=
  (seqS (ifS (cmpT .Eq (nameE 2) (constE (.int 0))) (retS (tupE (valsE [(constE (.str "make")), (callE c__law_made [true] [(nameE 0)]), (bltE (BI.op .tuple) [(lcE (rng1 (callE c__law_draw [true, true] [(nameE 0), (constE (.int 5))])) (tgN 6) [6] yesT (M_law_any_e4 c__law_any c__law_draw c__law_made c__law_unlike c__law_name c__law_spend c__law_number))])]))) nxS)
  (seqS (ifS (cmpT .Eq (nameE 2) (constE (.int 1))) (retS (tupE (valsE [(constE (.str "hole"))]))) nxS)
  (retS (bin2 (tupE (valsE [(tupE (valsE [(constE (.str "var")), (callE c__law_name [true] [(nameE 0)])])), (tupE (valsE [(constE (.str "number")), (callE c__law_number [true] [(nameE 0)])]))])) (callE c__law_draw [true, true] [(nameE 0), (constE (.int 2))]) ixK))))
def anyCond (c__law_any c__law_draw c__law_made c__law_unlike c__law_name c__law_spend c__law_number : List D → CR) : Sl → R Bool :=
  (orT (cmpT .Lt (nameE 1) (constE (.int 2))) (orT (cmpT .Lt (nameE 2) (constE (.int 4))) (notT (truT (callE c__law_spend [true] [(nameE 0)])))))
def anyRest (c__law_any c__law_draw c__law_made c__law_unlike c__law_name c__law_spend c__law_number : List D → CR) : Sl → Fl :=
  (seqS (ifS (cmpT .Lt (nameE 2) (constE (.int 6))) (retS (tupE (valsE [(constE (.str "fun")), (callE c__law_name [true] [(nameE 0)]), (callE c__law_any [true, true] [(nameE 0), (bin2 (nameE 1) (constE (.int 1)) (op2K (binD .Sub)))])]))) nxS)
  (seqS (ifS (cmpT .Lt (nameE 2) (constE (.int 8))) (retS (tupE (valsE [(constE (.str "call")), (callE c__law_any [true, true] [(nameE 0), (bin2 (nameE 1) (constE (.int 1)) (op2K (binD .Sub)))]), (callE c__law_name [true] [(nameE 0)])]))) nxS)
  (seqS (ifS (cmpT .Lt (nameE 2) (constE (.int 10))) (seqS (setS 4 (lcE (plI (seqI (callE c__law_unlike [true, true] [(nameE 0), (bin2 (constE (.int 1)) (callE c__law_draw [true, true] [(nameE 0), (constE (.int 4))]) (op2K (binD .Add)))]))) (tgN 9) [9] yesT (M_law_any_e3 c__law_any c__law_draw c__law_made c__law_unlike c__law_name c__law_spend c__law_number)))
  (retS (tupE (valsE [(constE (.str "let")), (bltE (BI.op .tuple) [(nameE 4)]), (callE c__law_any [true, true] [(nameE 0), (bin2 (nameE 1) (constE (.int 1)) (op2K (binD .Sub)))])])))) nxS)
  (seqS (ifS (cmpT .Lt (nameE 2) (constE (.int 12))) (seqS (setS 4 (lstE (valsE [])))
  (seqS (setS 5 (callE c__law_any [true, true] [(nameE 0), (bin2 (nameE 1) (constE (.int 1)) (op2K (binD .Sub)))]))
  (seqS (forS (rng1 (bin2 (constE (.int 1)) (callE c__law_draw [true, true] [(nameE 0), (constE (.int 4))]) (op2K (binD .Add)))) (tgN 6) (M_law_any_f2 c__law_any c__law_draw c__law_made c__law_unlike c__law_name c__law_spend c__law_number))
  (retS (tupE (valsE [(constE (.str "case")), (nameE 5), (bltE (BI.op .tuple) [(nameE 4)])])))))) nxS)
  (seqS (ifS (cmpT .Eq (nameE 2) (constE (.int 12))) (retS (tupE (valsE [(bin2 (tupE (valsE [(constE (.str "tick")), (constE (.str "waste"))])) (callE c__law_draw [true, true] [(nameE 0), (constE (.int 2))]) ixK), (callE c__law_any [true, true] [(nameE 0), (bin2 (nameE 1) (constE (.int 1)) (op2K (binD .Sub)))])]))) nxS)
  (seqS (ifS (cmpT .Eq (nameE 2) (constE (.int 13))) (retS (tupE (valsE [(constE (.str "ifzero")), (callE c__law_any [true, true] [(nameE 0), (bin2 (nameE 1) (constE (.int 1)) (op2K (binD .Sub)))]), (callE c__law_any [true, true] [(nameE 0), (bin2 (nameE 1) (constE (.int 1)) (op2K (binD .Sub)))]), (callE c__law_any [true, true] [(nameE 0), (bin2 (nameE 1) (constE (.int 1)) (op2K (binD .Sub)))])]))) nxS)
  (seqS (setS 3 (bin2 (tupE (valsE [(constE (.str "+")), (constE (.str "-")), (constE (.str "*")), (constE (.str "/")), (constE (.str "<")), (constE (.str "="))])) (callE c__law_draw [true, true] [(nameE 0), (constE (.int 6))]) ixK))
  (retS (tupE (valsE [(nameE 3), (callE c__law_any [true, true] [(nameE 0), (bin2 (nameE 1) (constE (.int 1)) (op2K (binD .Sub)))]), (callE c__law_any [true, true] [(nameE 0), (bin2 (nameE 1) (constE (.int 1)) (op2K (binD .Sub)))])]))))))))))
theorem any_split (c__law_any c__law_draw c__law_made c__law_unlike c__law_name c__law_spend c__law_number : List D → CR) : M_law_any c__law_any c__law_draw c__law_made c__law_unlike c__law_name c__law_spend c__law_number = seqS (setS 2 (callE c__law_draw [true, true] [(nameE 0), (constE (.int 16))])) (seqS (ifS (anyCond c__law_any c__law_draw c__law_made c__law_unlike c__law_name c__law_spend c__law_number) (anyLeaf c__law_any c__law_draw c__law_made c__law_unlike c__law_name c__law_spend c__law_number) nxS) (anyRest c__law_any c__law_draw c__law_made c__law_unlike c__law_name c__law_spend c__law_number)) := rfl
/-- what the parts answer, at one depth -/
structure AnyF (dr ma un na sp nu : List D → CR) : Prop where
  dr : ∀ (p : Pool) (n : Int), 0 < n → n < 1073741824 → dr [p.d, .int n] = .ok (.int (p.val n)) [some (p.nxt n).d, some (.int n)]
  ma : ∀ p : Pool, ∃ (x : Str) (q : Pool), ma [p.d] = .ok (.str x) [some q.d] ∧ IsMk x
  un : ∀ (p : Pool) (n : Nat), n ≤ 5 → ∃ (xs : List Str) (q : Pool), un [p.d, .int (n : Nat)] = .ok (.lst true (xs.map .str)) [some q.d, some (.int (n : Nat))] ∧ xs.length = n ∧ xs.Nodup ∧ ∀ x ∈ xs, IsNm x
  na : ∀ p : Pool, ∃ (x : Str) (q : Pool), na [p.d] = .ok (.str x) [some q.d] ∧ IsNm x
  sp : ∀ p : Pool, ∃ (b : Bool) (q : Pool), sp [p.d] = .ok (.bl b) [some q.d]
  nu : ∀ p : Pool, ∃ (v : Int) (q : Pool), nu [p.d] = .ok (.int v) [some q.d] ∧ 0 ≤ v ∧ v < 65536
/-- a term of such a depth -/
structure AnyT (d : Nat) (t : Tm) : Prop where
  gd : t.gd
  ht : t.ht ≤ max d 1
  cnt : t.cnt ≤ 4 * 5 ^ (d - 1)
section
variable {a dr ma un na sp nu : List D → CR}
theorem any_nm (A : AnyF dr ma un na sp nu) {o1 o2 o3 o4 o5 o7 o8 o9 o10 : Option D} : ∀ {ds : List D} {p : Pool} {acc : List D} {o6 : Option D}, acc.length + ds.length ≤ 1000 → ∃ (xs : List Str) (q : Pool) (o : Option D), lcL (tgN 6) [6] yesT (M_law_any_e4 a dr ma un na sp nu) ds [some p.d, o1, o2, o3, o4, o5, o6, o7, o8, o9, o10] acc = .ok (acc ++ xs.map .str) [some q.d, o1, o2, o3, o4, o5, o, o7, o8, o9, o10] ∧ xs.length = ds.length ∧ ∀ x ∈ xs, IsNm x
  | [], p, acc, o6, _ => ⟨[], p, o6, by simp, rfl, fun x h => by cases h⟩
  | d :: ds, p, acc, o6, hl => by
    rw [List.length_cons] at hl
    obtain ⟨x, q, e1, hx⟩ := A.na p
    obtain ⟨xs, q2, o, e2, h2, h3⟩ := any_nm A (ds := ds) (p := q) (acc := acc ++ [.str x]) (o6 := some d) (by rw [List.length_append, List.length_singleton]; omega)
    have hlt : acc.length < 16000000 := by omega
    refine ⟨x :: xs, q2, o, ?_, by rw [List.length_cons, h2, List.length_cons], fun y hy => ?_⟩
    · rw [x_lcL]
      have h : lc1 (tgN 6) [6] yesT (M_law_any_e4 a dr ma un na sp nu) ds acc (tgN 6 d (wipeS [some p.d, o1, o2, o3, o4, o5, o6, o7, o8, o9, o10] [6])) = lcL (tgN 6) [6] yesT (M_law_any_e4 a dr ma un na sp nu) ds [some q.d, o1, o2, o3, o4, o5, some d, o7, o8, o9, o10] (acc ++ [.str x]) := by
        have e4 : M_law_any_e4 a dr ma un na sp nu [some p.d, o1, o2, o3, o4, o5, some d, o7, o8, o9, o10] = .ok (.val (.str x)) [some q.d, o1, o2, o3, o4, o5, some d, o7, o8, o9, o10] := by simp [M_law_any_e4, e1]
        simp [e4, hlt]
      rw [h, e2]
      simp
    · rcases List.mem_cons.mp hy with rfl | hy
      · exact hx
      · exact h3 y hy
theorem two_cases (i : Int) (h : 0 ≤ i) (h2 : i < 2) : i = 0 ∨ i = 1 := by omega
theorem leaf_ok (A : AnyF dr ma un na sp nu) (d : Nat) (p : Pool) (w : Int) (dd : D) : ∃ (t : Tm) (q : Pool) (s : Sl), anyLeaf a dr ma un na sp nu [some p.d, some dd, some (.int w), none, none, none, none, none, none, none, none] = .rt t.d s ∧ maskP [true, true] s = [some q.d, some dd] ∧ AnyT d t := by
  have hpow : 1 ≤ 5 ^ (d - 1) := Nat.one_le_pow _ _ (by decide)
  by_cases h0 : w = 0
  · subst h0
    obtain ⟨c, p1, e1, hc⟩ := A.ma p
    have n0 := p1.val_nn 5 (by decide) (by decide)
    have n1 := p1.val_lt 5 (by decide) (by decide)
    have hu : (upto 0 (p1.val 5).toNat).length = (p1.val 5).toNat := by
      unfold upto
      rw [List.length_map, List.length_range]
    obtain ⟨xs, q, o, e2, hl, hx⟩ := any_nm (a := a) A (o1 := some dd) (o2 := some (.int 0)) (o3 := none) (o4 := none) (o5 := none) (o7 := none) (o8 := none) (o9 := none) (o10 := none) (ds := upto 0 (p1.val 5).toNat) (p := p1.nxt 5) (acc := []) (o6 := none) (by rw [hu]; simp; omega)
    have b1 : p1.val 5 ≤ 1000000000 := by omega
    have b2 : -1000000000 ≤ p1.val 5 := by omega
    refine ⟨.mk (.make c xs) [], q, [some q.d, some dd, some (.int 0), none, none, none, none, none, none, none, none], ?_, rfl, ⟨⟨hc, by omega, hx⟩, rfl, trivial⟩, ?_, ?_⟩
    · have hd := A.dr p1 5 (by decide) (by decide)
      simp [anyLeaf, e1, hd, b1, b2, x_lcE, e2, Tm.d, Hd.d, nsD]
    · rw [Tm.ht, Tm.hts]; omega
    · rw [Tm.cnt, Tm.cnts]
      show xs.length + 0 ≤ _
      omega
  · by_cases h1 : w = 1
    · subst h1
      refine ⟨.mk .hole [], p, [some p.d, some dd, some (.int 1), none, none, none, none, none, none, none, none], ?_, rfl, ⟨trivial, rfl, trivial⟩, ?_, ?_⟩
      · simp [anyLeaf, Tm.d, Hd.d]
      · rw [Tm.ht, Tm.hts]; omega
      · rw [Tm.cnt, Tm.cnts]
        exact Nat.zero_le _
    · obtain ⟨x, p1, e1, hx⟩ := A.na p
      obtain ⟨v, p2, e2, v0, v1⟩ := A.nu p1
      have hd := A.dr p2 2 (by decide) (by decide)
      rcases two_cases _ (p2.val_nn 2 (by decide) (by decide)) (p2.val_lt 2 (by decide) (by decide)) with e | e
      · refine ⟨.mk (.var x) [], p2.nxt 2, [some (p2.nxt 2).d, some dd, some (.int w), none, none, none, none, none, none, none, none], ?_, rfl, ⟨hx, rfl, trivial⟩, ?_, ?_⟩
        · simp [anyLeaf, h0, h1, e1, e2, hd, e, Tm.d, Hd.d, ixD, L2.atI, ixN]
        · rw [Tm.ht, Tm.hts]; omega
        · rw [Tm.cnt, Tm.cnts]
          show 1 + 0 ≤ _
          omega
      · refine ⟨.mk (.num v) [], p2.nxt 2, [some (p2.nxt 2).d, some dd, some (.int w), none, none, none, none, none, none, none, none], ?_, rfl, ⟨⟨v0, v1⟩, rfl, trivial⟩, ?_, ?_⟩
        · simp [anyLeaf, h0, h1, e1, e2, hd, e, Tm.d, Hd.d, ixD, L2.atI, ixN]
        · rw [Tm.ht, Tm.hts]; omega
        · rw [Tm.cnt, Tm.cnts]
          exact Nat.zero_le _
end
end NS
namespace NS
open PySem PySem.Spec PyProof.Rows L2
/-! ## 33. comprehensions over a slot's own list -/
theorem lcO_map {tt : D → Sl → Option Sl} {vs : List Nat} {c : Sl → R Bool} {f : Sl → R EV} {i : Nat} {s s0 : Sl} {xs : List D} {g : D → D} (hs : s[i]? = some (some (.lst true xs))) (hp : plainL xs = true) (hv : vs.contains i = false) (h0 : wipeS (s.set i none) vs = s0) (hi : s0[i]? = some none) (h : LcMap tt vs c f s0 xs g) (hl : xs.length ≤ 16000000) :
    lcO i tt vs c f s = .ok (.val (.lst true (xs.map g))) (s0.set i (some (.lst true xs))) := by
  obtain ⟨s', e, h'⟩ := lcL_map (acc := []) h h0 (by simpa using hl)
  have eb : lcB i tt vs c f s = .ok (.val (.lst true (xs.map g))) (s0.set i (some (.lst true xs))) := by
    unfold lcB
    rw [hs]
    dsimp only
    rw [if_pos (by rw [hp, hv]; rfl), e, x_bind1, h']
    simp only [hi, List.nil_append]
  unfold lcO
  rw [eb]
/-! ## 34. a drawn term with parts -/
theorem anyT_node {d : Nat} {h : Hd} {ts : List Tm} (hd : 1 ≤ d) (g : h.gd) (hl : ts.length = h.ar) (ht : ∀ t ∈ ts, AnyT d t) (hc : (h.own.length = 0 ∧ ts.length ≤ 5) ∨ (h.own.length ≤ 4 ∧ ts.length ≤ 4)) : AnyT (d + 1) (.mk h ts) := by
  have h1 : Tm.hts ts ≤ d := hts_le fun t h => by
    have := (ht t h).ht
    rw [Nat.max_eq_left hd] at this
    exact this
  have h2 : Tm.cnts ts ≤ ts.length * (4 * 5 ^ (d - 1)) := cnts_le fun t h => (ht t h).cnt
  have hpow : 1 ≤ 5 ^ (d - 1) := Nat.one_le_pow _ _ (by decide)
  refine ⟨⟨g, hl, gds_of fun t h => (ht t h).gd⟩, ?_, ?_⟩
  · rw [Tm.ht]; omega
  · rw [Tm.cnt]
    have e : 5 ^ (d + 1 - 1) = 5 * 5 ^ (d - 1) := by
      rw [show d + 1 - 1 = (d - 1) + 1 by omega, Nat.pow_succ, Nat.mul_comm]
    rw [e]
    generalize 5 ^ (d - 1) = P at *
    rcases hc with ⟨c1, c2⟩ | ⟨c1, c2⟩
    · have : ts.length * (4 * P) ≤ 5 * (4 * P) := Nat.mul_le_mul_right _ c2
      omega
    · have : ts.length * (4 * P) ≤ 4 * (4 * P) := Nat.mul_le_mul_right _ c2
      omega
section
variable {a dr ma un na sp nu : List D → CR}
/-- a's answers at the depth d -/
def AnyA (a : List D → CR) (d : Nat) : Prop := ∀ p : Pool, ∃ (t : Tm) (q : Pool), a [p.d, .int (d : Nat)] = .ok t.d [some q.d, some (.int (d : Nat))] ∧ AnyT d t
theorem any_rows (A : AnyF dr ma un na sp nu) {d : Nat} {dv : Int} (hdv : dv - 1 = (d : Nat)) (ha : AnyA a d) {o2 o3 o4 o5 o6 o7 o8 o10 : Option D} : ∀ {xs : List Str} {p : Pool} {acc : List D} {o9 : Option D}, acc.length + xs.length ≤ 1000 → ∃ (ts : List Tm) (q : Pool) (o : Option D), lcL (tgN 9) [9] yesT (M_law_any_e3 a dr ma un na sp nu) (xs.map D.str) [some p.d, some (.int dv), o2, o3, o4, o5, o6, o7, o8, o9, o10] acc = .ok (acc ++ rowsD xs ts) [some q.d, some (.int dv), o2, o3, o4, o5, o6, o7, o8, o, o10] ∧ ts.length = xs.length ∧ ∀ t ∈ ts, AnyT d t
  | [], p, acc, o9, _ => ⟨[], p, o9, by simp [rowsD], rfl, fun x h => by cases h⟩
  | x :: xs, p, acc, o9, hl => by
    rw [List.length_cons] at hl
    obtain ⟨t, q, e1, ht⟩ := ha p
    obtain ⟨ts, q2, o, e2, h2, h3⟩ := any_rows A hdv ha (xs := xs) (p := q) (acc := acc ++ [.tup [.str x, t.d]]) (o2 := o2) (o3 := o3) (o4 := o4) (o5 := o5) (o6 := o6) (o7 := o7) (o8 := o8) (o10 := o10) (o9 := some (.str x)) (by rw [List.length_append, List.length_singleton]; omega)
    have hlt : acc.length < 16000000 := by omega
    refine ⟨t :: ts, q2, o, ?_, by rw [List.length_cons, h2, List.length_cons], fun y hy => ?_⟩
    · rw [List.map_cons, x_lcL]
      have h : lc1 (tgN 9) [9] yesT (M_law_any_e3 a dr ma un na sp nu) (xs.map D.str) acc (tgN 9 (.str x) (wipeS [some p.d, some (.int dv), o2, o3, o4, o5, o6, o7, o8, o9, o10] [9])) = lcL (tgN 9) [9] yesT (M_law_any_e3 a dr ma un na sp nu) (xs.map D.str) [some q.d, some (.int dv), o2, o3, o4, o5, o6, o7, o8, some (.str x), o10] (acc ++ [.tup [.str x, t.d]]) := by
        have e4 : M_law_any_e3 a dr ma un na sp nu [some p.d, some (.int dv), o2, o3, o4, o5, o6, o7, o8, some (.str x), o10] = .ok (.val (.tup [.str x, t.d])) [some q.d, some (.int dv), o2, o3, o4, o5, o6, o7, o8, some (.str x), o10] := by
          simp [M_law_any_e3, hdv, e1]
        simp [e4, hlt]
      rw [h, e2]
      simp [rowsD, Tm.ds]
    · rcases List.mem_cons.mp hy with rfl | hy
      · exact ht
      · exact h3 y hy
theorem upto_get {n j : Nat} (h : j < (upto 0 n).length) : (upto 0 n)[j] = .int (j : Nat) := by
  have h2 : j < n := by
    unfold upto at h
    rw [List.length_map, List.length_range] at h
    exact h
  have e : (upto 0 n)[j]? = some (.int (j : Nat)) := by
    unfold upto
    rw [List.getElem?_map, List.getElem?_range h2]
    simp
  rw [List.getElem?_eq_getElem h] at e
  exact Option.some.inj e
theorem upto_len {n : Nat} : (upto 0 n).length = n := by
  unfold upto
  rw [List.length_map, List.length_range]
theorem cases_g0 : ∀ {rws : List (Str × List Str)} {ts : List Tm}, rws.length = ts.length → (casesD rws ts).map g0 = (rws.map (·.1)).map .str
  | [], [], _ => rfl
  | [], _ :: _, h => by simp at h
  | r :: rws, [], h => by simp at h
  | r :: rws, t :: ts, h => congrArg (D.str r.1 :: ·) (cases_g0 (by simpa using h))
theorem casesD_app : ∀ {rws : List (Str × List Str)} {ts : List Tm} {r : Str × List Str} {t : Tm}, rws.length = ts.length → casesD rws ts ++ [.tup [.str r.1, nsD r.2, t.d]] = casesD (rws ++ [r]) (ts ++ [t])
  | [], [], _, _, _ => rfl
  | [], _ :: _, _, _, h => by simp at h
  | _ :: _, [], _, _, h => by simp at h
  | x :: rws, u :: ts, r, t, h => congrArg (D.tup [.str x.1, nsD x.2, u.d] :: ·) (casesD_app (by simpa using h))
theorem plain_cases {rws : List (Str × List Str)} {ts : List Tm} : plainL (casesD rws ts) = true := plain_of fun d hd => by
  obtain ⟨x, ns, t, rfl⟩ := mem_casesD hd
  rfl
theorem wxyz : ∀ c ∈ ("WXYZ" : Str).cps.toList, uppC c = true := by decide
theorem zz_ok : ∀ c ∈ ("ZZ" : Str).cps.toList, uppC c = true := by decide
theorem mk_zz {c : Nat} (h : c ∈ ("WXYZ" : Str).cps.toList) : IsMk (("ZZ" : Str) ++ ⟨#[c]⟩) := by
  have hl : (("ZZ" : Str) ++ (⟨#[c]⟩ : Str)).length = 3 := by rw [len_app, len_one]; rfl
  refine ⟨by rw [hl]; decide, by rw [hl]; decide, fun c' hc' => ?_⟩
  rw [cps_app, List.mem_append] at hc'
  rcases hc' with hc' | hc'
  · exact zz_ok c' hc'
  · have e : c' = c := by simpa using hc'
    rw [e]
    exact wxyz c h
/-- the slots at a turn over rows -/
def CaseSt (d : Nat) (dv w : Int) (sd : D) (j : Nat) (s : Sl) : Prop := ∃ (q : Pool) (rws : List (Str × List Str)) (ts : List Tm) (o6 o7 o8 o9 o10 : Option D), s = [some q.d, some (.int dv), some (.int w), none, some (.lst true (casesD rws ts)), some sd, o6, o7, o8, o9, o10] ∧
  rws.length = ts.length ∧ rws.length ≤ j ∧ (0 < j → 1 ≤ rws.length) ∧ (rws.map (·.1)).Nodup ∧ (∀ r ∈ rws, RowOk r) ∧ ∀ t ∈ ts, AnyT d t
theorem case_step (A : AnyF dr ma un na sp nu) {d : Nat} {dv w : Int} (hdv : dv - 1 = (d : Nat)) (ha : AnyA a d) {sd : D} {j : Nat} (hj : j < 4) {s : Sl} (hs : CaseSt d dv w sd j s) : (stepS (tgN 6) (M_law_any_f2 a dr ma un na sp nu) (.int (j : Nat)) s).on (CaseSt d dv w sd (j + 1)) := by
  obtain ⟨q, rws, ts, o6, o7, o8, o9, o10, rfl, hl, hl2, hpos, hnd, hro, hat⟩ := hs
  have n0 := q.val_nn 5 (by decide) (by decide)
  have n1 := q.val_lt 5 (by decide) (by decide)
  have hd := A.dr q 5 (by decide) (by decide)
  obtain ⟨ns, q1, e1, h1l, h1n, h1m⟩ := A.un (q.nxt 5) (q.val 5).toNat (by omega)
  rw [Int.toNat_of_nonneg n0] at e1
  obtain ⟨m, q2, e2, hm⟩ := A.ma q1
  obtain ⟨c, hc, hcm⟩ := str_ix (z := "WXYZ") (i := (j : Nat)) (n := 4) (by decide) (by decide) (by omega) (by omega)
  have hcl : (casesD rws ts).length = rws.length := casesD_len (by omega)
  have hzz : (("ZZ" : Str)).length + (⟨#[c]⟩ : Str).length ≤ 16000000 := by rw [len_one]; decide
  have hns : ns.length ≤ 16000000 := by omega
  have walk : ∀ (f : Sl → R EV), (∀ (x : Option D) (o1 o2 o3 o4 o5 o6 o7 o8 o9 : Option D) (n : Str) (l : D) (t : D), f [o1, o2, o3, o4, none, o5, o6, o7, o8, o9, some (.tup [.str n, l, t])] = .ok (.val (.str n)) [o1, o2, o3, o4, none, o5, o6, o7, o8, o9, some (.tup [.str n, l, t])]) → ∀ (o1 o2 o3 o4 o5 o6 o7 o8 o9 o10 : Option D), lcO 4 (tgN 10) [10] yesT f [o1, o2, o3, o4, some (.lst true (casesD rws ts)), o5, o6, o7, o8, o9, o10] = .ok (.val (.lst true ((rws.map (·.1)).map .str))) [o1, o2, o3, o4, some (.lst true (casesD rws ts)), o5, o6, o7, o8, o9, none] := by
    intro f hf o1 o2 o3 o4 o5 o6 o7 o8 o9 o10
    have z := lcO_map (i := 4) (tt := tgN 10) (vs := [10]) (c := yesT) (f := f) (s := [o1, o2, o3, o4, some (.lst true (casesD rws ts)), o5, o6, o7, o8, o9, o10]) (s0 := [o1, o2, o3, o4, none, o5, o6, o7, o8, o9, none]) (xs := casesD rws ts) (g := g0) rfl plain_cases rfl rfl rfl (fun d hd => by
      obtain ⟨x, l, t, rfl⟩ := mem_casesD hd
      refine ⟨[o1, o2, o3, o4, none, o5, o6, o7, o8, o9, some (.tup [.str x, nsD l, t.d])], rfl, fun ds' acc hl => ?_⟩
      simp [hf none, hl, g0]) (by omega)
    rw [cases_g0 hl] at z
    exact z
  have w1 := walk (M_law_any_e1 a dr ma un na sp nu) (fun x o1 o2 o3 o4 o5 o6 o7 o8 o9 n l t => by simp [M_law_any_e1, ixD, L2.atI, ixN])
  have w0 := walk (M_law_any_e0 a dr ma un na sp nu) (fun x o1 o2 o3 o4 o5 o6 o7 o8 o9 n l t => by simp [M_law_any_e0, ixD, L2.atI, ixN])
  clear walk
  have happ : (casesD rws ts).length < 16000000 := by omega
  -- the name that is taken
  have key : ∀ (m' : Str), IsMk m' → m' ∉ rws.map (·.1) → ∀ (q3 : Pool) (t : Tm) (o6 o7 o8 o9 o10 : Option D), AnyT d t → CaseSt d dv w sd (j + 1) [some q3.d, some (.int dv), some (.int w), none, some (.lst true (casesD rws ts ++ [.tup [.str m', nsD ns, t.d]])), some sd, o6, o7, o8, o9, o10] := by
    intro m' hm' hn q3 t o6 o7 o8 o9 o10 hT
    refine ⟨q3, rws ++ [(m', ns)], ts ++ [t], o6, o7, o8, o9, o10, by rw [← casesD_app hl], by rw [List.length_append, List.length_append, hl]; rfl, by rw [List.length_append, List.length_singleton]; omega, fun _ => by rw [List.length_append, List.length_singleton]; omega, ?_, fun r hr => ?_, fun t' ht' => ?_⟩
    · rw [List.map_append, List.nodup_append]
      refine ⟨hnd, by simp, fun x hx y hy => ?_⟩
      rw [List.mem_singleton.mp (show y ∈ [m'] from hy)]
      exact fun e => hn (e ▸ hx)
    · rcases List.mem_append.mp hr with hr | hr
      · exact hro r hr
      · rw [List.mem_singleton.mp hr]
        exact ⟨hm', by show ns.length ≤ 4; omega, h1n, h1m⟩
    · rcases List.mem_append.mp ht' with ht' | ht'
      · exact hat t' ht'
      · rw [List.mem_singleton.mp ht']
        exact hT
  have stay : ∀ (q3 : Pool) (o6 o7 o8 o9 o10 : Option D), 1 ≤ rws.length → CaseSt d dv w sd (j + 1) [some q3.d, some (.int dv), some (.int w), none, some (.lst true (casesD rws ts)), some sd, o6, o7, o8, o9, o10] := fun q3 o6 o7 o8 o9 o10 h => ⟨q3, rws, ts, o6, o7, o8, o9, o10, rfl, hl, by omega, fun _ => h, hnd, hro, hat⟩
  obtain ⟨t, q3, e3, hT⟩ := ha q2
  by_cases c1 : m ∈ rws.map (·.1)
  · have hr1 : 1 ≤ rws.length := by
      cases rws with
      | nil => cases c1
      | cons _ _ => simp
    have i1 : cmpB .In (.str m) (.lst false ((rws.map (·.1)).map .str)) = some true := by rw [x_in2 x_all2, x_any2, decide_eq_true c1]
    by_cases c2 : (("ZZ" : Str) ++ ⟨#[c]⟩) ∈ rws.map (·.1)
    · have i2 : cmpB .NotIn (.str (("ZZ" : Str) ++ ⟨#[c]⟩)) (.lst false ((rws.map (·.1)).map .str)) = some false := by rw [x_nin2 x_all2, x_any2, decide_eq_true c2]; rfl
      simp [M_law_any_f2, hd, e1, e2, w1, w0, i1, i2, hc, x_addS hzz, -x_in2, -x_nin2, -List.map_map]
      exact stay _ _ _ _ _ _ hr1
    · have i2 : cmpB .NotIn (.str (("ZZ" : Str) ++ ⟨#[c]⟩)) (.lst false ((rws.map (·.1)).map .str)) = some true := by rw [x_nin2 x_all2, x_any2, decide_eq_false c2]; rfl
      simp [M_law_any_f2, hd, e1, e2, w1, w0, i1, i2, hc, x_addS hzz, -x_in2, -x_nin2, -List.map_map, hdv, e3, happ]
      exact key _ (mk_zz hcm) c2 _ _ _ _ _ _ _ hT
  · have i1 : cmpB .In (.str m) (.lst false ((rws.map (·.1)).map .str)) = some false := by rw [x_in2 x_all2, x_any2, decide_eq_false c1]
    have i2 : cmpB .NotIn (.str m) (.lst false ((rws.map (·.1)).map .str)) = some true := by rw [x_nin2 x_all2, x_any2, decide_eq_false c1]; rfl
    simp [M_law_any_f2, hd, e1, e2, w1, w0, i1, i2, -x_in2, -x_nin2, -List.map_map, hdv, e3, happ]
    exact key _ hm c1 _ _ _ _ _ _ _ hT
end
end NS
namespace NS
open PySem PySem.Spec PyProof.Rows L2
section
variable {a dr ma un na sp nu : List D → CR}
theorem six_cases (i : Int) (h : 0 ≤ i) (h2 : i < 6) : i = 0 ∨ i = 1 ∨ i = 2 ∨ i = 3 ∨ i = 4 ∨ i = 5 := by omega
theorem rest_ok (A : AnyF dr ma un na sp nu) {d : Nat} {dv w : Int} (hd1 : 1 ≤ d) (hdv : dv - 1 = (d : Nat)) (ha : AnyA a d) (h4 : 4 ≤ w) (h16 : w < 16) (p : Pool) : ∃ (t : Tm) (q : Pool) (s : Sl), anyRest a dr ma un na sp nu [some p.d, some (.int dv), some (.int w), none, none, none, none, none, none, none, none] = .rt t.d s ∧ maskP [true, true] s = [some q.d, some (.int dv)] ∧ AnyT (d + 1) t := by
  by_cases c1 : w < 6
  · obtain ⟨x, q1, e1, hx⟩ := A.na p
    obtain ⟨t, q2, e2, ht⟩ := ha q1
    refine ⟨.mk (.fn x) [t], q2, [some q2.d, some (.int dv), some (.int w), none, none, none, none, none, none, none, none], ?_, rfl, anyT_node hd1 hx rfl (fun t' h => by rw [List.mem_singleton.mp h]; exact ht) (.inl ⟨rfl, by simp⟩)⟩
    simp [anyRest, c1, e1, hdv, e2, Tm.d, Tm.ds, Hd.d]
  by_cases c2 : w < 8
  · obtain ⟨t, q2, e2, ht⟩ := ha p
    obtain ⟨x, q1, e1, hx⟩ := A.na q2
    refine ⟨.mk (.call x) [t], q1, [some q1.d, some (.int dv), some (.int w), none, none, none, none, none, none, none, none], ?_, rfl, anyT_node hd1 hx rfl (fun t' h => by rw [List.mem_singleton.mp h]; exact ht) (.inr ⟨by show 1 ≤ 4; decide, by simp⟩)⟩
    simp [anyRest, c1, c2, e1, hdv, e2, Tm.d, Tm.ds, Hd.d]
  by_cases c3 : w < 10
  · have n0 := p.val_nn 4 (by decide) (by decide)
    have n1 := p.val_lt 4 (by decide) (by decide)
    have hd := A.dr p 4 (by decide) (by decide)
    obtain ⟨xs, q1, e1, hl, hn, hm⟩ := A.un (p.nxt 4) (1 + p.val 4).toNat (by omega)
    rw [Int.toNat_of_nonneg (by omega)] at e1
    obtain ⟨ts, q2, o, e2, h2l, h2⟩ := any_rows A hdv ha (o2 := some (.int w)) (o3 := none) (o4 := none) (o5 := none) (o6 := none) (o7 := none) (o8 := none) (o10 := none) (xs := xs) (p := q1) (acc := []) (o9 := none) (by simp; omega)
    obtain ⟨b, q3, e3, hb⟩ := ha q2
    have hlx : xs.length ≤ 4 := by omega
    have hlx1 : 1 ≤ xs.length := by omega
    have p1 : plainL (xs.map D.str) = true := plain_strs
    have hz : (rowsD xs ts).length ≤ 16000000 := by rw [rowsD_len (by omega)]; omega
    have hown : (Hd.lets xs).own.length = 0 := rfl
    refine ⟨.mk (.lets xs) (ts ++ [b]), q3, [some q3.d, some (.int dv), some (.int w), none, some (.lst true (rowsD xs ts)), none, none, none, none, none, none], ?_, rfl, anyT_node hd1 ⟨hlx1, hlx, hn, hm⟩ (by rw [List.length_append, h2l]; rfl) (fun t' h => ?_) (.inl ⟨hown, by rw [List.length_append, List.length_singleton]; omega⟩)⟩
    · rw [lets_d h2l]
      simp [anyRest, c1, c2, c3, hd, e1, p1, x_lcE, e2, hdv, e3]
    · rcases List.mem_append.mp h with h | h
      · exact h2 t' h
      · rw [List.mem_singleton.mp h]; exact hb
  by_cases c4 : w < 12
  · obtain ⟨s, q1, e1, hs⟩ := ha p
    have n0 := q1.val_nn 4 (by decide) (by decide)
    have n1 := q1.val_lt 4 (by decide) (by decide)
    have hd := A.dr q1 4 (by decide) (by decide)
    obtain ⟨s', e2, hst⟩ := forL_fold (step := stepS (tgN 6) (M_law_any_f2 a dr ma un na sp nu)) (st := fun j (_ : Unit) s' => CaseSt d dv w s.d j s') (up := fun _ _ => ()) (ds := upto 0 (1 + q1.val 4).toNat) (off := 0) (a := ()) (s := [some (q1.nxt 4).d, some (.int dv), some (.int w), none, some (.lst true []), some s.d, none, none, none, none, none]) (fun j hj _ s' h => by
      rw [upto_get hj]
      rw [upto_len] at hj
      rw [Nat.zero_add] at h ⊢
      exact case_step A hdv ha (by omega) h) ⟨q1.nxt 4, [], [], none, none, none, none, none, rfl, rfl, Nat.le_refl _, (fun h => absurd h (Nat.lt_irrefl _)), List.nodup_nil, (fun r h => by cases h), fun t h => by cases h⟩
    rw [upto_len, Nat.zero_add] at hst
    obtain ⟨q2, rws, ts, o6, o7, o8, o9, o10, rfl, hl, hl2, hpos, hnd, hro, hat⟩ := hst
    have b1 : 1 + q1.val 4 ≤ 1000000000 := by omega
    have b2 : -1000000000 ≤ 1 + q1.val 4 := by omega
    have hr4 : rws.length ≤ 4 := by omega
    have hown : (Hd.case rws).own.length = 0 := rfl
    refine ⟨.mk (.case rws) (s :: ts), q2, [some q2.d, some (.int dv), some (.int w), none, some (.lst true (casesD rws ts)), some s.d, o6, o7, o8, o9, o10], ?_, rfl, anyT_node hd1 ⟨hpos (by omega), hr4, hnd, hro⟩ (by rw [List.length_cons, ← hl]; rfl) (fun t' h => ?_) (.inl ⟨hown, by rw [List.length_cons]; omega⟩)⟩
    · rw [case_d]
      simp [anyRest, c1, c2, c3, c4, hdv, e1, hd, b1, b2, e2]
    · rcases List.mem_cons.mp h with rfl | h
      · exact hs
      · exact hat t' h
  by_cases c5 : w = 12
  · subst c5
    have hd := A.dr p 2 (by decide) (by decide)
    obtain ⟨t, q1, e1, ht⟩ := ha (p.nxt 2)
    rcases two_cases _ (p.val_nn 2 (by decide) (by decide)) (p.val_lt 2 (by decide) (by decide)) with e | e
    · refine ⟨.mk (.flat .tick) [t], q1, [some q1.d, some (.int dv), some (.int 12), none, none, none, none, none, none, none, none], ?_, rfl, anyT_node hd1 trivial rfl (fun t' h => by rw [List.mem_singleton.mp h]; exact ht) (.inl ⟨rfl, by simp⟩)⟩
      simp [anyRest, hd, e, ixD, L2.atI, ixN, hdv, e1, Tm.d, Tm.ds, Hd.d, Fk.s]
    · refine ⟨.mk (.flat .waste) [t], q1, [some q1.d, some (.int dv), some (.int 12), none, none, none, none, none, none, none, none], ?_, rfl, anyT_node hd1 trivial rfl (fun t' h => by rw [List.mem_singleton.mp h]; exact ht) (.inl ⟨rfl, by simp⟩)⟩
      simp [anyRest, hd, e, ixD, L2.atI, ixN, hdv, e1, Tm.d, Tm.ds, Hd.d, Fk.s]
  by_cases c6 : w = 13
  · subst c6
    obtain ⟨t1, q1, e1, h1⟩ := ha p
    obtain ⟨t2, q2, e2, h2⟩ := ha q1
    obtain ⟨t3, q3, e3, h3⟩ := ha q2
    refine ⟨.mk (.flat .ifzero) [t1, t2, t3], q3, [some q3.d, some (.int dv), some (.int 13), none, none, none, none, none, none, none, none], ?_, rfl, anyT_node hd1 trivial rfl (fun t' h => ?_) (.inl ⟨rfl, by simp⟩)⟩
    · simp [anyRest, hdv, e1, e2, e3, Tm.d, Tm.ds, Hd.d, Fk.s]
    · simp only [List.mem_cons, List.not_mem_nil, or_false] at h
      rcases h with rfl | rfl | rfl
      · exact h1
      · exact h2
      · exact h3
  · have hd := A.dr p 6 (by decide) (by decide)
    obtain ⟨t1, q1, e1, h1⟩ := ha (p.nxt 6)
    obtain ⟨t2, q2, e2, h2⟩ := ha q1
    have fin : ∀ f : Fk, f.ar = 2 → ixD (.tup [.str "+", .str "-", .str "*", .str "/", .str "<", .str "="]) (.int (p.val 6)) = some (.str f.s) → ∃ (t : Tm) (q : Pool) (s : Sl), anyRest a dr ma un na sp nu [some p.d, some (.int dv), some (.int w), none, none, none, none, none, none, none, none] = .rt t.d s ∧ maskP [true, true] s = [some q.d, some (.int dv)] ∧ AnyT (d + 1) t := by
      intro f har hix
      have hown : (Hd.flat f).own.length = 0 := rfl
      refine ⟨.mk (.flat f) [t1, t2], q2, [some q2.d, some (.int dv), some (.int w), some (.str f.s), none, none, none, none, none, none, none], ?_, rfl, anyT_node hd1 trivial (by show 2 = f.ar; rw [har]) (fun t' h => ?_) (.inl ⟨hown, by simp⟩)⟩
      · rw [flat_d]
        simp [anyRest, c1, c2, c3, c4, c5, c6, hd, hix, hdv, e1, e2, Tm.ds]
      · simp only [List.mem_cons, List.not_mem_nil, or_false] at h
        rcases h with rfl | rfl
        · exact h1
        · exact h2
    rcases six_cases _ (p.val_nn 6 (by decide) (by decide)) (p.val_lt 6 (by decide) (by decide)) with e | e | e | e | e | e
    · exact fin .add rfl (by rw [e]; rfl)
    · exact fin .sub rfl (by rw [e]; rfl)
    · exact fin .mul rfl (by rw [e]; rfl)
    · exact fin .div rfl (by rw [e]; rfl)
    · exact fin .lt rfl (by rw [e]; rfl)
    · exact fin .eq rfl (by rw [e]; rfl)
/-- the end behind a leaf or not -/
theorem any_fin {d : Nat} {dd : D} {F : Fl} {G : Sl → Fl} (h : ∃ (t : Tm) (q : Pool) (s : Sl), F = .rt t.d s ∧ maskP [true, true] s = [some q.d, some dd] ∧ AnyT d t) : ∃ (t : Tm) (q : Pool), calK [true, true] (F.seq G) = .ok t.d [some q.d, some dd] ∧ AnyT d t := by
  obtain ⟨t, q, s, rfl, e, ht⟩ := h
  exact ⟨t, q, by rw [x_seq2, x_calK1, e], ht⟩
theorem any_fin0 {d : Nat} {dd : D} {F : Fl} (h : ∃ (t : Tm) (q : Pool) (s : Sl), F = .rt t.d s ∧ maskP [true, true] s = [some q.d, some dd] ∧ AnyT d t) : ∃ (t : Tm) (q : Pool), calK [true, true] F = .ok t.d [some q.d, some dd] ∧ AnyT d t := by
  obtain ⟨t, q, s, rfl, e, ht⟩ := h
  exact ⟨t, q, by rw [x_calK1, e], ht⟩
theorem any_body (A : AnyF dr ma un na sp nu) {d : Nat} (ha : 2 ≤ d → AnyA a (d - 1)) (p : Pool) : ∃ (t : Tm) (q : Pool), calOf (M_law_any a dr ma un na sp nu) 11 [true, true] [p.d, .int (d : Nat)] = .ok t.d [some q.d, some (.int (d : Nat))] ∧ AnyT d t := by
  have w0 := p.val_nn 16 (by decide) (by decide)
  have w1 := p.val_lt 16 (by decide) (by decide)
  have hd := A.dr p 16 (by decide) (by decide)
  rw [any_split, x_calOf]
  have e0 : (seqS (setS 2 (callE dr [true, true] [(nameE 0), (constE (.int 16))])) (seqS (ifS (anyCond a dr ma un na sp nu) (anyLeaf a dr ma un na sp nu) nxS) (anyRest a dr ma un na sp nu))) (begS 11 [p.d, .int (d : Nat)]) = (((anyCond a dr ma un na sp nu) [some (p.nxt 16).d, some (.int (d : Nat)), some (.int (p.val 16)), none, none, none, none, none, none, none, none]).to (ifK (anyLeaf a dr ma un na sp nu) nxS)).seq (anyRest a dr ma un na sp nu) := by
    simp [begS, hd]
  rw [e0]
  by_cases c1 : ((d : Nat) : Int) < 2
  · have e1 : (anyCond a dr ma un na sp nu) [some (p.nxt 16).d, some (.int (d : Nat)), some (.int (p.val 16)), none, none, none, none, none, none, none, none] = .ok true [some (p.nxt 16).d, some (.int (d : Nat)), some (.int (p.val 16)), none, none, none, none, none, none, none, none] := by
      simp [anyCond, c1]
    rw [e1, x_to1, x_ifK1]
    exact any_fin (leaf_ok A d _ _ _)
  by_cases c2 : p.val 16 < 4
  · have e1 : (anyCond a dr ma un na sp nu) [some (p.nxt 16).d, some (.int (d : Nat)), some (.int (p.val 16)), none, none, none, none, none, none, none, none] = .ok true [some (p.nxt 16).d, some (.int (d : Nat)), some (.int (p.val 16)), none, none, none, none, none, none, none, none] := by
      simp [anyCond, c1, c2]
    rw [e1, x_to1, x_ifK1]
    exact any_fin (leaf_ok A d _ _ _)
  obtain ⟨b, q, e2⟩ := A.sp (p.nxt 16)
  have e1 : (anyCond a dr ma un na sp nu) [some (p.nxt 16).d, some (.int (d : Nat)), some (.int (p.val 16)), none, none, none, none, none, none, none, none] = .ok (!b) [some q.d, some (.int (d : Nat)), some (.int (p.val 16)), none, none, none, none, none, none, none, none] := by
    simp [anyCond, c1, c2, e2]
  rw [e1, x_to1]
  cases b with
  | false =>
    exact any_fin (leaf_ok A d _ _ _)
  | true =>
    show ∃ (t : Tm) (q : Pool), calK [true, true] ((nxS _).seq _) = _ ∧ _
    rw [x_nx, x_seq1]
    have h2 : 2 ≤ d := by omega
    have z := rest_ok (a := a) A (d := d - 1) (dv := (d : Nat)) (w := p.val 16) (by omega) (by omega) (ha h2) (by omega) w1 q
    rw [show d - 1 + 1 = d by omega] at z
    exact any_fin0 z
end
section
variable {cA cD cM cU cN cS cQ cF : Nat → List D → CR}
theorem anyF_of (qD : ∀ k ds, cD (k + 1) ds = calOf M_law_draw 4 [true, true] ds) (qM : ∀ k ds, cM (k + 1) ds = calOf (M_law_made (cF k) (cD k)) 3 [true] ds) (qF : ∀ k ds, cF (k + 1) ds = calOf (M_law_few (cD k)) 3 [true, true] ds) (qU : ∀ k ds, cU (k + 1) ds = calOf (M_law_unlike (cN k)) 6 [true, true] ds) (qN : ∀ k ds, cN (k + 1) ds = calOf (M_law_name (cD k)) 3 [true] ds)
    (qS : ∀ k ds, cS (k + 1) ds = calOf M_law_spend 1 [true] ds) (qQ : ∀ k ds, cQ (k + 1) ds = calOf (M_law_number (cD k)) 1 [true] ds) (k : Nat) : AnyF (cD (k + 3)) (cM (k + 3)) (cU (k + 3)) (cN (k + 3)) (cS (k + 3)) (cQ (k + 3)) where
  dr := fun p n h0 h1 => drawF qD (k + 2) p n h0 h1
  ma := fun p => let ⟨x, q, e, h, _⟩ := made_ok qM qF qD k p; ⟨x, q, e, h⟩
  un := fun p n h => let ⟨x, q, e, h1, h2, h3, _⟩ := unlike_ok qU qN qD k p n h; ⟨x, q, e, h1, h2, h3⟩
  na := fun p => let ⟨x, q, e, h, _⟩ := name_ok qN qD (k + 1) p; ⟨x, q, e, h⟩
  sp := fun p => ⟨_, _, spend_ok qS (k + 2) p⟩
  nu := fun p => let ⟨x, q, e, h, h2, _⟩ := number_ok qQ qD (k + 1) p; ⟨x, q, e, h, h2⟩
theorem drawn_ok (qA : ∀ k ds, cA (k + 1) ds = calOf (M_law_any (cA k) (cD k) (cM k) (cU k) (cN k) (cS k) (cQ k)) 11 [true, true] ds) (hF : ∀ k, AnyF (cD (k + 3)) (cM (k + 3)) (cU (k + 3)) (cN (k + 3)) (cS (k + 3)) (cQ (k + 3))) : ∀ (d k : Nat), AnyA (cA (k + 4 + d)) d
  | 0, k => fun p => by
    rw [show k + 4 + 0 = (k + 3) + 1 by omega, qA]
    exact any_body (hF k) (fun h => by omega) p
  | d + 1, k => fun p => by
    have ih := drawn_ok qA hF d k
    have e : k + 4 + (d + 1) = (k + 4 + d) + 1 := by omega
    rw [e, qA]
    have hf := hF (k + 1 + d)
    rw [show k + 1 + d + 3 = k + 4 + d by omega] at hf
    exact any_body hf (fun _ => by rw [Nat.add_sub_cancel]; exact ih) p
end
end NS
namespace NS
open PySem PySem.Spec PyProof.Rows L2
/-! ## 35. the laws' equality -/
mutual
/-- data of texts, numbers, bools, None, tuples, lists -/
def D.pd : D → Bool
  | .non => true
  | .bl _ => true
  | .int _ => true
  | .str _ => true
  | .tup xs => Nat.ble xs.length 16000000 && D.pds xs
  | .lst o xs => !o && (Nat.ble xs.length 16000000 && D.pds xs)
  | _ => false
def D.pds : List D → Bool
  | [] => true
  | d :: ds => d.pd && D.pds ds
end
mutual
def D.dep : D → Nat
  | .tup xs => D.deps xs + 1
  | .lst _ xs => D.deps xs + 1
  | _ => 1
def D.deps : List D → Nat
  | [] => 0
  | d :: ds => max d.dep (D.deps ds)
end
theorem pds_mem : ∀ {ds : List D} {d : D}, D.pds ds = true → d ∈ ds → d.pd = true
  | [], d, _, h => by cases h
  | a :: ds, d, e, h => by
    have e : (a.pd && D.pds ds) = true := e
    rw [Bool.and_eq_true] at e
    rcases List.mem_cons.mp h with rfl | h
    · exact e.1
    · exact pds_mem e.2 h
theorem deps_mem : ∀ {ds : List D} {d : D}, d ∈ ds → d.dep ≤ D.deps ds
  | [], d, h => by cases h
  | a :: ds, d, h => by
    rw [D.deps]
    rcases List.mem_cons.mp h with rfl | h
    · omega
    · have := deps_mem h
      omega
theorem pd_own {d : D} (h : d.pd = true) : d.own = false := by
  cases d <;> first | rfl | skip
  · simp only [D.pd, Bool.and_eq_true, Bool.not_eq_true'] at h
    exact h.1
  · cases h
  · cases h
theorem pd_frz {d : D} (h : d.pd = true) : d.frz = d := by
  cases d <;> first | rfl | skip
  · simp only [D.pd, Bool.and_eq_true, Bool.not_eq_true'] at h
    rw [x_frz6, h.1]
  · cases h
  · cases h
section
variable {cS : Nat → List D → CR}
theorem same_loop {k : Nat} {a b : D} {xs : List D} (ha : a.frz = b.frz) (oa : a.own = true ∨ a.frz = a) (ob : b.own = true ∨ b.frz = b) (hx : ∀ j (hj : j < xs.length), ixD a.frz (.int (j : Nat)) = some xs[j]) (hp : ∀ d ∈ xs, d.pd = true) (ih : ∀ d ∈ xs, cS k [d, d] = .ok (.bl true) [some d, some d]) :
    ∃ y, forL (stepS (tgN 2) (M_law_same_f0 (cS k))) (upto 0 xs.length) [some a, some b, none] = .nx [some a, some b, y] := by
  obtain ⟨s', e, y, rfl⟩ := forL_on (step := stepS (tgN 2) (M_law_same_f0 (cS k))) (I := fun s => ∃ y, s = [some a, some b, y]) (ds := upto 0 xs.length) (fun d hd s hs => by
    obtain ⟨j, hj, rfl⟩ := mem_upto hd
    rw [Int.zero_add]
    obtain ⟨y, rfl⟩ := hs
    have h1 := hx j hj
    have h1' : ixD b.frz (.int (j : Nat)) = some xs[j] := by rw [← ha]; exact h1
    have hm := List.getElem_mem hj
    have ho := pd_own (hp _ hm)
    have hf := pd_frz (hp _ hm)
    have hi := ih _ hm
    have ea : ∀ s' : Sl, s'[0]? = some (some a) → ∃ ev, nameE 0 s' = .ok ev s' ∧ ev.pend = ev.pend ∧ evR ev.pend s' = some a.frz := by
      intro s' h0
      rw [x_name, h0, x_nam1]
      rcases oa with oa | oa
      · rw [oa]
        exact ⟨.al 0, rfl, rfl, by show frzO s'[0]? = _; rw [h0]; rfl⟩
      · cases h2 : a.own with
        | true => exact ⟨.al 0, rfl, rfl, by show frzO s'[0]? = _; rw [h0]; rfl⟩
        | false => exact ⟨.val a, rfl, rfl, by show some a.frz.frz = _; rw [oa, oa]⟩
    have eb : ∀ s' : Sl, s'[1]? = some (some b) → ∃ ev, nameE 1 s' = .ok ev s' ∧ ev.pend = ev.pend ∧ evR ev.pend s' = some b.frz := by
      intro s' h0
      rw [x_name, h0, x_nam1]
      rcases ob with ob | ob
      · rw [ob]
        exact ⟨.al 1, rfl, rfl, by show frzO s'[1]? = _; rw [h0]; rfl⟩
      · cases h2 : b.own with
        | true => exact ⟨.al 1, rfl, rfl, by show frzO s'[1]? = _; rw [h0]; rfl⟩
        | false => exact ⟨.val b, rfl, rfl, by show some b.frz.frz = _; rw [ob, ob]⟩
    obtain ⟨ev0, n0, _, r0⟩ := ea [some a, some b, some (.int (j : Nat))] rfl
    obtain ⟨ev1, n1, _, r1⟩ := eb [some a, some b, some (.int (j : Nat))] rfl
    have pk : ∀ {β : Type} (k : EV → Sl → R β) (e : EV) (s : Sl), penK k e s = k e.pend s := fun _ _ _ => rfl
    have nm2 : nameE 2 [some a, some b, some (.int (j : Nat))] = .ok (.val (.int (j : Nat))) [some a, some b, some (.int (j : Nat))] := rfl
    have st0 : stepS (tgN 2) (M_law_same_f0 (cS k)) (.int (j : Nat)) [some a, some b, y] = M_law_same_f0 (cS k) [some a, some b, some (.int (j : Nat))] := by simp
    have b0 : bin2 (nameE 0) (nameE 2) ixK [some a, some b, some (.int (j : Nat))] = .ok (.val xs[j]) [some a, some b, some (.int (j : Nat))] := by
      rw [x_bin2, n0, x_bind1, pk, x_bin1, nm2, x_bind1, pk, x_ixK, r0]
      show ixO (some a.frz) (some (.int (j : Nat))) _ = _
      rw [x_ixO, h1, x_okX, ho]
      rfl
    have b1 : bin2 (nameE 1) (nameE 2) ixK [some a, some b, some (.int (j : Nat))] = .ok (.val xs[j]) [some a, some b, some (.int (j : Nat))] := by
      rw [x_bin2, n1, x_bind1, pk, x_bin1, nm2, x_bind1, pk, x_ixK, r1]
      show ixO (some b.frz) (some (.int (j : Nat))) _ = _
      rw [x_ixO, h1', x_okX, ho]
      rfl
    rw [st0]
    have fin : M_law_same_f0 (cS k) [some a, some b, some (.int (j : Nat))] = .nx [some a, some b, some (.int (j : Nat))] := by
      simp [M_law_same_f0, b0, b1, hf, hi, -x_bin2]
    rw [fin]
    exact ⟨_, rfl⟩) (s := [some a, some b, none]) ⟨none, rfl⟩
  exact ⟨y, e⟩
theorem same_tup (q : ∀ k ds, cS (k + 1) ds = calOf (M_law_same (cS k)) 3 [true, true] ds) {k : Nat} {xs : List D} (hz : xs.length ≤ 16000000) (hp : ∀ d ∈ xs, d.pd = true) (ih : ∀ d ∈ xs, cS k [d, d] = .ok (.bl true) [some d, some d]) : cS (k + 1) [.tup xs, .tup xs] = .ok (.bl true) [some (.tup xs), some (.tup xs)] := by
  obtain ⟨y, e⟩ := same_loop (cS := cS) (k := k) (a := .tup xs) (b := .tup xs) (xs := xs) rfl (.inr rfl) (.inr rfl) (fun j hj => x_atNat (List.getElem?_eq_getElem hj)) hp ih
  rw [q, x_calOf]
  have h1 : ((xs.length : Nat) : Int) ≤ 1000000000 := by omega
  have h2 : -1000000000 ≤ ((xs.length : Nat) : Int) := by omega
  simp [M_law_same, begS, h1, h2, e]
theorem same_lst (q : ∀ k ds, cS (k + 1) ds = calOf (M_law_same (cS k)) 3 [true, true] ds) {k : Nat} {o1 o2 : Bool} {xs : List D} (hz : xs.length ≤ 16000000) (hp : ∀ d ∈ xs, d.pd = true) (ih : ∀ d ∈ xs, cS k [d, d] = .ok (.bl true) [some d, some d]) : cS (k + 1) [.lst o1 xs, .lst o2 xs] = .ok (.bl true) [some (.lst o1 xs), some (.lst o2 xs)] := by
  have own : ∀ o : Bool, (D.lst o xs).own = true ∨ (D.lst o xs).frz = .lst o xs := fun o => by cases o <;> simp
  obtain ⟨y, e⟩ := same_loop (cS := cS) (k := k) (a := .lst o1 xs) (b := .lst o2 xs) (xs := xs) (by simp) (own o1) (own o2) (fun j hj => by rw [x_frz6]; exact x_atNat (List.getElem?_eq_getElem hj)) hp ih
  rw [q, x_calOf]
  have h1 : ((xs.length : Nat) : Int) ≤ 1000000000 := by omega
  have h2 : -1000000000 ≤ ((xs.length : Nat) : Int) := by omega
  cases o1 <;> cases o2 <;> simp [M_law_same, begS, h1, h2, e]
theorem same_ok (q : ∀ k ds, cS (k + 1) ds = calOf (M_law_same (cS k)) 3 [true, true] ds) : ∀ (k : Nat) (d : D), d.pd = true → d.dep ≤ k → cS k [d, d] = .ok (.bl true) [some d, some d]
  | 0, d, hp, hk => by cases d <;> simp [D.dep] at hk
  | k + 1, d, hp, hk => by
    cases d with
    | non => rw [q, x_calOf]; simp [M_law_same, begS]
    | bl b => rw [q, x_calOf]; simp [M_law_same, begS]
    | int i => rw [q, x_calOf]; simp [M_law_same, begS]
    | str s => rw [q, x_calOf]; simp [M_law_same, begS]
    | tup xs =>
      simp only [D.pd, Bool.and_eq_true] at hp
      rw [D.dep] at hk
      have hm : ∀ d ∈ xs, d.pd = true := fun d h => pds_mem hp.2 h
      exact same_tup q (Nat.le_of_ble_eq_true hp.1) hm fun d h => same_ok q k d (hm d h) (by have := deps_mem h; omega)
    | lst o xs =>
      simp only [D.pd, Bool.and_eq_true] at hp
      rw [D.dep] at hk
      have hm : ∀ d ∈ xs, d.pd = true := fun d h => pds_mem hp.2.2 h
      exact same_lst q (Nat.le_of_ble_eq_true hp.2.1) hm fun d h => same_ok q k d (hm d h) (by have := deps_mem h; omega)
    | ro xs => cases hp
    | dct _ _ _ => cases hp
    | obj _ _ _ _ => cases hp
end
end NS
namespace NS
open PySem PySem.Spec PyProof.Rows L2
/-! ## 36. free names, told by the uses -/
theorem mem_ins {f : List Str} {x y : Str} : y ∈ ins f x ↔ y ∈ f ∨ y = x := by
  unfold ins
  split
  · exact ⟨.inl, fun h => h.elim id fun e => e ▸ ‹x ∈ f›⟩
  · rw [List.mem_append, List.mem_singleton]
theorem nodup_ins {f : List Str} {x : Str} (h : f.Nodup) : (ins f x).Nodup := by
  unfold ins
  split
  · exact h
  · rename_i hn
    rw [List.nodup_append]
    refine ⟨h, by simp, fun a ha b hb e => ?_⟩
    rw [List.mem_singleton.mp hb] at e
    exact hn (e ▸ ha)
theorem mem_foldI {y : Str} : ∀ {xs f : List Str}, y ∈ xs.foldl ins f ↔ y ∈ f ∨ y ∈ xs
  | [], f => by simp
  | x :: xs, f => by
    rw [List.foldl_cons, mem_foldI, mem_ins, List.mem_cons, or_assoc]
theorem nodup_foldI : ∀ {xs f : List Str}, f.Nodup → (xs.foldl ins f).Nodup
  | [], f, h => h
  | x :: xs, f, h => nodup_foldI (xs := xs) (nodup_ins h)
theorem mem_insU {ns f : List Str} {x y : Str} : y ∈ insU ns f x ↔ y ∈ f ∨ (y = x ∧ x ∉ ns) := by
  unfold insU
  split
  · rename_i h
    exact ⟨.inl, fun z => z.elim id fun z => absurd h z.2⟩
  · rename_i h
    rw [mem_ins]
    exact ⟨fun z => z.elim .inl fun e => .inr ⟨e, h⟩, fun z => z.elim .inl fun e => .inr e.1⟩
theorem nodup_insU {ns f : List Str} {x : Str} (h : f.Nodup) : (insU ns f x).Nodup := by
  unfold insU
  split
  · exact h
  · exact nodup_ins h
theorem mem_foldU {ns : List Str} {y : Str} : ∀ {xs f : List Str}, y ∈ xs.foldl (insU ns) f ↔ y ∈ f ∨ (y ∈ xs ∧ y ∉ ns)
  | [], f => by simp
  | x :: xs, f => by
    rw [List.foldl_cons, mem_foldU, mem_insU, List.mem_cons]
    constructor
    · rintro ((h | ⟨rfl, h⟩) | ⟨h1, h2⟩)
      · exact .inl h
      · exact .inr ⟨.inl rfl, h⟩
      · exact .inr ⟨.inr h1, h2⟩
    · rintro (h | ⟨rfl | h1, h2⟩)
      · exact .inl (.inl h)
      · exact .inl (.inr ⟨rfl, h2⟩)
      · exact .inr ⟨h1, h2⟩
theorem nodup_foldU {ns : List Str} : ∀ {xs f : List Str}, f.Nodup → (xs.foldl (insU ns) f).Nodup
  | [], f, h => h
  | x :: xs, f, h => nodup_foldU (xs := xs) (nodup_insU h)
theorem mem_sel {i : Nat} {ns : List Str} {us : List (List Nat × Str)} {u : List Nat × Str} : u ∈ sel i ns us ↔ ∃ v ∈ us, v.2 ∉ ns ∧ u = (i :: v.1, v.2) := by
  unfold sel
  rw [List.mem_map]
  constructor
  · rintro ⟨v, hv, rfl⟩
    obtain ⟨h1, h2⟩ := List.mem_filter.mp hv
    exact ⟨v, h1, by simpa using h2, rfl⟩
  · rintro ⟨v, h1, h2, rfl⟩
    exact ⟨v, List.mem_filter.mpr ⟨h1, by simpa using h2⟩, rfl⟩
mutual
theorem mem_FN : ∀ (t : Tm) (x : Str), x ∈ FN t ↔ ∃ u ∈ LU t, u.2 = x
  | .mk h ts, x => by
    rw [FN, LU, mem_FNs ts h.bnd (h.own.foldl ins []) 0 x, mem_foldI]
    constructor
    · rintro ((h1 | h1) | ⟨u, hu, e⟩)
      · cases h1
      · exact ⟨([], x), List.mem_append_left _ (List.mem_map.mpr ⟨x, h1, rfl⟩), rfl⟩
      · exact ⟨u, List.mem_append_right _ hu, e⟩
    · rintro ⟨u, hu, e⟩
      rcases List.mem_append.mp hu with hu | hu
      · obtain ⟨y, hy, rfl⟩ := List.mem_map.mp hu
        exact .inl (.inr (e ▸ hy))
      · exact .inr ⟨u, hu, e⟩
theorem mem_FNs : ∀ (ts : List Tm) (bs : List (List Str)) (f : List Str) (i : Nat) (x : Str), x ∈ FNs ts bs f ↔ x ∈ f ∨ ∃ u ∈ LUs i ts bs, u.2 = x
  | [], bs, f, i, x => by
    rw [LUs_nil1, FNs]
    · simp
    · intro _ _ _ _ h; cases h
  | t :: ts, [], f, i, x => by
    rw [LUs_nil2, FNs]
    · simp
    · intro _ _ _ _ _ h; cases h
  | t :: ts, ns :: bs, f, i, x => by
    rw [FNs, LUs, mem_FNs ts bs _ (i + 1) x, mem_foldU, mem_FN t x]
    constructor
    · rintro ((h | ⟨⟨u, hu, e⟩, hn⟩) | ⟨u, hu, e⟩)
      · exact .inl h
      · exact .inr ⟨(i :: u.1, u.2), List.mem_append_left _ (mem_sel.mpr ⟨u, hu, by rw [e]; exact hn, rfl⟩), e⟩
      · exact .inr ⟨u, List.mem_append_right _ hu, e⟩
    · rintro (h | ⟨u, hu, e⟩)
      · exact .inl (.inl h)
      · rcases List.mem_append.mp hu with hu | hu
        · obtain ⟨v, hv, hn, rfl⟩ := mem_sel.mp hu
          have e : v.2 = x := e
          exact .inl (.inr ⟨⟨v, hv, e⟩, e ▸ hn⟩)
        · exact .inr ⟨u, hu, e⟩
end
mutual
theorem nodup_FN : ∀ t : Tm, (FN t).Nodup
  | .mk h ts => by rw [FN]; exact nodup_FNs ts h.bnd _ (nodup_foldI List.nodup_nil)
theorem nodup_FNs : ∀ (ts : List Tm) (bs : List (List Str)) (f : List Str), f.Nodup → (FNs ts bs f).Nodup
  | [], bs, f, hf => by
    rw [FNs]
    · exact hf
    · intro _ _ _ _ h; cases h
  | t :: ts, [], f, hf => by
    rw [FNs]
    · exact hf
    · intro _ _ _ _ _ h; cases h
  | t :: ts, ns :: bs, f, hf => by rw [FNs]; exact nodup_FNs ts bs _ (nodup_foldU hf)
end
theorem mem_LUs : ∀ {ts : List Tm} {bs : List (List Str)} {i : Nat} {u : List Nat × Str}, ts.length = bs.length → (u ∈ LUs i ts bs ↔ ∃ j, j < ts.length ∧ ∃ v ∈ LU (ts.getD j holeT), v.2 ∉ bs.getD j [] ∧ u = ((i + j) :: v.1, v.2))
  | [], bs, i, u, _ => by rw [LUs_nil1]; simp
  | t :: ts, [], i, u, h => by simp at h
  | t :: ts, ns :: bs, i, u, h => by
    have h : ts.length = bs.length := by simpa using h
    rw [LUs, List.mem_append, mem_sel, mem_LUs (i := i + 1) h]
    constructor
    · rintro (⟨v, h1, h2, rfl⟩ | ⟨j, hj, v, h1, h2, rfl⟩)
      · exact ⟨0, by simp, v, h1, h2, rfl⟩
      · exact ⟨j + 1, by simpa using hj, v, h1, h2, by rw [show i + 1 + j = i + (j + 1) by omega]⟩
    · rintro ⟨j, hj, v, h1, h2, rfl⟩
      cases j with
      | zero => exact .inl ⟨v, h1, h2, rfl⟩
      | succ j => exact .inr ⟨j, by simpa using hj, v, h1, h2, by rw [show i + 1 + j = i + (j + 1) by omega]⟩
theorem CPs_iff {x y : Str} : ∀ {ts : List Tm} {bs : List (List Str)}, ts.length = bs.length → (CPs ts bs x y = true ↔ ∃ j, j < ts.length ∧ x ∉ bs.getD j [] ∧ ((y ∈ bs.getD j [] ∧ x ∈ FN (ts.getD j holeT)) ∨ CP (ts.getD j holeT) x y = true))
  | [], bs, _ => by
    rw [CPs]
    · simp
    · intro _ _ _ _ h; cases h
  | t :: ts, [], h => by simp at h
  | t :: ts, ns :: bs, h => by
    have h : ts.length = bs.length := by simpa using h
    rw [CPs, Bool.or_eq_true, CPs_iff h]
    constructor
    · rintro (z | ⟨j, hj, z⟩)
      · refine ⟨0, by simp, ?_⟩
        simpa using z
      · exact ⟨j + 1, by simpa using hj, z⟩
    · rintro ⟨j, hj, z⟩
      cases j with
      | zero => exact .inl (by simpa using z)
      | succ j => exact .inr ⟨j, by simpa using hj, z⟩
theorem VP_uses : ∀ (n : Nat) (t : Tm), t.ht ≤ n → t.ok = true → ∀ u ∈ LU t, VP t u.1
  | 0, .mk h ts, hn, _, u, _ => by rw [Tm.ht] at hn; omega
  | n + 1, .mk h ts, hn, ht, u, hu => by
    obtain ⟨hl, hs⟩ := ok_mk ht
    have hbl := Hd.bnd_len h
    rw [Tm.ht] at hn
    rw [LU] at hu
    rcases List.mem_append.mp hu with hu | hu
    · obtain ⟨x, _, rfl⟩ := List.mem_map.mp hu
      exact trivial
    · obtain ⟨j, hj, v, hv, _, rfl⟩ := (mem_LUs (by omega)).mp hu
      rw [Nat.zero_add]
      refine ⟨hj, VP_uses n _ ?_ (oks_get hs hj) v hv⟩
      have hm : ts.getD j holeT ∈ ts := by
        simp [hj]
      have := ht_pos ts _ hm
      omega
theorem CP_iff (x y : Str) : ∀ (n : Nat) (t : Tm), t.ht ≤ n → t.ok = true → (CP t x y = true ↔ ∃ u ∈ LU t, u.2 = x ∧ y ∈ BD t u.1)
  | 0, .mk h ts, hn, _ => by rw [Tm.ht] at hn; omega
  | n + 1, .mk h ts, hn, ht => by
    obtain ⟨hl, hs⟩ := ok_mk ht
    have hbl := Hd.bnd_len h
    rw [Tm.ht] at hn
    have hsub : ∀ j, j < ts.length → (ts.getD j holeT).ht ≤ n := fun j hj => by
      have hm : ts.getD j holeT ∈ ts := by simp [hj]
      have := ht_pos ts _ hm
      omega
    rw [CP, CPs_iff (by omega), LU]
    constructor
    · rintro ⟨j, hj, hx, z⟩
      have hex : ∃ v ∈ LU (ts.getD j holeT), v.2 = x ∧ (y ∈ h.bnd.getD j [] ∨ y ∈ BD (ts.getD j holeT) v.1) := by
        rcases z with ⟨h1, h2⟩ | h1
        · obtain ⟨v, hv, e⟩ := (mem_FN _ _).mp h2
          exact ⟨v, hv, e, .inl h1⟩
        · obtain ⟨v, hv, e, h3⟩ := (CP_iff x y n _ (hsub j hj) (oks_get hs hj)).mp h1
          exact ⟨v, hv, e, .inr h3⟩
      obtain ⟨v, hv, e, h3⟩ := hex
      refine ⟨(j :: v.1, v.2), List.mem_append_right _ ((mem_LUs (by omega)).mpr ⟨j, hj, v, hv, by rw [e]; exact hx, by rw [Nat.zero_add]⟩), e, ?_⟩
      rw [BD, List.mem_append]
      exact h3
    · rintro ⟨u, hu, e, hy⟩
      rcases List.mem_append.mp hu with hu | hu
      · obtain ⟨z, _, rfl⟩ := List.mem_map.mp hu
        simp [BD] at hy
      · obtain ⟨j, hj, v, hv, hn2, rfl⟩ := (mem_LUs (by omega)).mp hu
        have e : v.2 = x := e
        rw [Nat.zero_add, BD, List.mem_append] at hy
        refine ⟨j, hj, e ▸ hn2, ?_⟩
        rcases hy with hy | hy
        · exact .inl ⟨hy, (mem_FN _ _).mpr ⟨v, hv, e⟩⟩
        · exact .inr ((CP_iff x y n _ (hsub j hj) (oks_get hs hj)).mpr ⟨v, hv, e, hy⟩)
end NS
namespace NS
open PySem PySem.Spec PyProof.Rows L2
/-! ## 37. places -/
mutual
def PL : Tm → List (List Nat)
  | .mk _ ts => [] :: PLs 0 ts
def PLs : Nat → List Tm → List (List Nat)
  | _, [] => []
  | i, t :: ts => (PL t).map (i :: ·) ++ PLs (i + 1) ts
end
mutual
def Tm.sz : Tm → Nat
  | .mk _ ts => Tm.szs ts + 1
def Tm.szs : List Tm → Nat
  | [] => 0
  | t :: ts => t.sz + Tm.szs ts
end
mutual
theorem PL_len : ∀ t : Tm, (PL t).length = t.sz
  | .mk h ts => by rw [PL, Tm.sz, List.length_cons, PLs_len 0 ts]
theorem PLs_len : ∀ (i : Nat) (ts : List Tm), (PLs i ts).length = Tm.szs ts
  | i, [] => by rw [PLs, Tm.szs]; rfl
  | i, t :: ts => by rw [PLs, Tm.szs, List.length_append, List.length_map, PL_len t, PLs_len (i + 1) ts]
end
mutual
theorem PL_short : ∀ (t : Tm) (p : List Nat), p ∈ PL t → p.length < t.ht
  | .mk h ts, p, hp => by
    rw [PL, List.mem_cons] at hp
    rw [Tm.ht]
    rcases hp with rfl | hp
    · exact Nat.zero_lt_succ _
    · have := PLs_short 0 ts p hp
      omega
theorem PLs_short : ∀ (i : Nat) (ts : List Tm) (p : List Nat), p ∈ PLs i ts → p.length ≤ Tm.hts ts
  | i, [], p, hp => by rw [PLs] at hp; cases hp
  | i, t :: ts, p, hp => by
    rw [PLs, List.mem_append] at hp
    rw [Tm.hts]
    rcases hp with hp | hp
    · obtain ⟨q, hq, rfl⟩ := List.mem_map.mp hp
      have := PL_short t q hq
      rw [List.length_cons]
      omega
    · have := PLs_short (i + 1) ts p hp
      omega
end
theorem szs_mem : ∀ {ts : List Tm} {t : Tm}, t ∈ ts → t.sz ≤ Tm.szs ts
  | [], t, h => by cases h
  | a :: ts, t, h => by
    rw [Tm.szs]
    rcases List.mem_cons.mp h with rfl | h
    · omega
    · have := szs_mem h
      omega
end NS
namespace NS
open PySem PySem.Spec PyProof.Rows L2
/-! ## 38. places, as the law has them -/
def gCon (i : Nat) : D → D
  | .tup xs => .tup (.int (i : Nat) :: xs)
  | _ => .non
theorem gCon_map (i : Nat) (ps : List (List Nat)) : (ps.map pathD).map (gCon i) = (ps.map (i :: ·)).map pathD := by
  rw [List.map_map, List.map_map]
  rfl
theorem plain_paths {ps : List (List Nat)} : plainL (ps.map pathD) = true := plain_of fun d hd => by
  obtain ⟨x, _, rfl⟩ := List.mem_map.mp hd
  rfl
section
variable {cL cP : Nat → List D → CR}
theorem lpl_e {k i : Nat} {o0 o1 o2 : Option D} {ps : List (List Nat)} (hs : ∀ p ∈ ps, p.length < 1000) : LcMap (tgN 4) [4] yesT (M_law_places_e0 (cL k) (cP k)) [o0, o1, o2, some (.int (i : Nat)), none] (ps.map pathD) (gCon i) := by
  intro d hd
  obtain ⟨p, hp, rfl⟩ := List.mem_map.mp hd
  have hl := hs p hp
  have hz : 1 + p.length ≤ 16000000 := by omega
  refine ⟨[o0, o1, o2, some (.int (i : Nat)), some (pathD p)], rfl, fun ds' acc hl => ?_⟩
  simp [M_law_places_e0, hl, gCon, pathD, hz]
theorem lpl_l {k : Nat} {td : D} {pts : List D} : ∀ {ts : List Tm} {bs : List (List Str)} {pre fo : List D} {o3 o4 : Option D}, o4 = none → pts = pre ++ List.zipWith ptD ts bs → ts.length = bs.length → (∀ t ∈ ts, cL k [t.d] = .ok (.lst true ((PL t).map pathD)) [some t.d]) → (∀ t ∈ ts, t.ht < 1000) → fo.length + Tm.szs ts < 16000000 →
    ∃ s', forL (stepS (tgN 3) (M_law_places_f1 (cL k) (cP k))) ((List.range' pre.length ts.length).map fun (j : Nat) => D.int j) [some td, some (.lst true fo), some (.lst true pts), o3, o4] = .nx s' ∧ ∃ o3, s' = [some td, some (.lst true (fo ++ (PLs pre.length ts).map pathD)), some (.lst true pts), o3, none]
  | [], bs, pre, fo, o3, o4, ho, _, _, _, _, _ => ⟨[some td, some (.lst true fo), some (.lst true pts), o3, o4], by simp [List.range'], o3, by rw [PLs, ho]; simp⟩
  | t :: ts, [], pre, fo, o3, o4, _, _, hl, _, _, _ => by simp at hl
  | t :: ts, ns :: bs, pre, fo, o3, o4, ho, hp, hl, ih, hh, hc => by
    subst ho
    rw [Tm.szs] at hc
    rw [List.zipWith_cons_cons] at hp
    have hx : ixD (.lst false pts) (.int ((pre.length : Nat) : Int)) = some (.tup [t.d, nsD ns]) := by rw [hp]; exact getpart
    have h1 := ih t (by simp)
    have hlp := PL_len t
    have hs : ∀ p ∈ PL t, p.length < 1000 := fun p h => Nat.lt_trans (PL_short t p h) (hh t (by simp))
    have hy : ixD (.tup [t.d, nsD ns]) (.int 0) = some t.d := rfl
    have hpl : plainL ((PL t).map pathD) = true := plain_paths
    have e0 := lcE_map (gi := plI (seqI (callE (cL k) [true] [(bin2 (bin2 (nameE 2) (nameE 3) ixK) (constE (.int 0)) ixK)]))) (s := [some td, some (.lst true fo), some (.lst true pts), some (.int ((pre.length : Nat) : Int)), none]) (s1 := [some td, some (.lst true fo), some (.lst true pts), some (.int ((pre.length : Nat) : Int)), none]) (ds := (PL t).map pathD) (by simp [hx, hy, h1, hpl]) rfl (lpl_e (cL := cL) (cP := cP) (k := k) (i := pre.length) (o0 := some td) (o1 := some (.lst true fo)) (o2 := some (.lst true pts)) hs) (by rw [List.length_map]; omega)
    rw [gCon_map] at e0
    have hz : fo.length + (PL t).length ≤ 16000000 := by omega
    have hstep : stepS (tgN 3) (M_law_places_f1 (cL k) (cP k)) (.int ((pre.length : Nat) : Int)) [some td, some (.lst true fo), some (.lst true pts), o3, none] = .nx [some td, some (.lst true (fo ++ ((PL t).map (pre.length :: ·)).map pathD)), some (.lst true pts), some (.int ((pre.length : Nat) : Int)), none] := by
      simp [M_law_places_f1, e0, hz, -List.map_map]
    have e4 : (List.range' pre.length (t :: ts).length).map (fun (j : Nat) => D.int j) = .int ((pre.length : Nat) : Int) :: (List.range' (pre.length + 1) ts.length).map fun (j : Nat) => D.int j := by
      rw [List.length_cons, List.range'_succ, List.map_cons]
    rw [e4, x_forL, hstep, x_for1]
    obtain ⟨s', e, h2⟩ := lpl_l (k := k) (td := td) (pts := pts) (ts := ts) (bs := bs) (pre := pre ++ [ptD t ns]) (fo := fo ++ ((PL t).map (pre.length :: ·)).map pathD) (o3 := some (.int ((pre.length : Nat) : Int))) (o4 := none) rfl (by rw [List.append_assoc]; exact hp) (by simpa using hl) (fun t' h' => ih t' (List.mem_cons_of_mem _ h')) (fun t' h' => hh t' (List.mem_cons_of_mem _ h')) (by rw [List.length_append, List.length_map, List.length_map]; omega)
    rw [List.length_append, List.length_singleton] at e h2
    refine ⟨s', e, ?_⟩
    rw [PLs, List.map_append, ← List.append_assoc]
    exact h2
theorem upto_range' (n : Nat) : upto 0 n = (List.range' ([] : List D).length n).map fun (j : Nat) => D.int j := by
  unfold upto
  rw [List.range_eq_range']
  congr 1
  funext j
  rw [Int.zero_add]
theorem lawplaces_ok (qL : ∀ k ds, cL (k + 1) ds = calOf (M_law_places (cL k) (cP k)) 5 [true] ds) (qP : ∀ k ds, cP (k + 1) ds = calOf M_law_parts 5 [true] ds) :
    ∀ (k : Nat) (t : Tm), t.ok = true → t.sz < 16000000 → t.ht ≤ k → k < 1000 → cL (k + 1) [t.d] = .ok (.lst true ((PL t).map pathD)) [some t.d]
  | 0, .mk h ts, _, _, hk, _ => by rw [Tm.ht] at hk; omega
  | k + 1, .mk h ts, ht, hc, hk, hk2 => by
    obtain ⟨hl, hs⟩ := ok_mk ht
    have ha := ok_ar ht
    rw [Tm.ht] at hk
    rw [Tm.sz] at hc
    have ih : ∀ t ∈ ts, cL (k + 1) [t.d] = .ok (.lst true ((PL t).map pathD)) [some t.d] := fun t h => by
      have h1 := szs_mem h
      have h2 := ht_pos ts t h
      exact lawplaces_ok qL qP k t (oks_mem hs h) (by omega) (by omega) (by omega)
    have hh : ∀ t ∈ ts, t.ht < 1000 := fun t h => by
      have h2 := ht_pos ts t h
      omega
    have hP := lawparts_ok qP k (.mk h ts) ht
    have hbl := Hd.bnd_len h
    obtain ⟨s1, e1, o3, hs1⟩ := lpl_l (cL := cL) (cP := cP) (k := k + 1) (td := Tm.d (.mk h ts)) (pts := List.zipWith ptD ts h.bnd) (ts := ts) (bs := h.bnd) (pre := []) (fo := [.tup []]) (o3 := none) (o4 := none) rfl rfl (by omega) ih hh (by simp; omega)
    subst hs1
    have hlen : (List.zipWith ptD ts h.bnd).length = ts.length := by rw [List.length_zipWith]; omega
    have a1 : ((ts.length : Nat) : Int) ≤ 1000000000 := by omega
    have a2 : -1000000000 ≤ ((ts.length : Nat) : Int) := by omega
    rw [← upto_range'] at e1
    rw [show Tm.parts (.mk h ts) = List.zipWith ptD ts h.bnd from rfl] at *
    rw [qL, x_calOf, PL]
    have hmin : min ts.length h.bnd.length = ts.length := by omega
    simp [M_law_places, begS, hP, hlen, a1, a2, e1, hmin, pathD]
end
end NS
namespace NS
open PySem PySem.Spec PyProof.Rows L2
/-! ## 39. size, depth, places -/
theorem lcL_mapA {α : Type} {tt : D → Sl → Option Sl} {vs : List Nat} {c : Sl → R Bool} {f : Sl → R EV} {s0 : Sl} {emb g : α → D} : ∀ {xs : List α} {s : Sl} {acc : List D}, (∀ a ∈ xs, ∃ s', wipeS s' vs = s0 ∧ ∀ (ds' acc : List D), acc.length < 16000000 → lc1 tt vs c f ds' acc (tt (emb a) s0) = lcL tt vs c f ds' s' (acc ++ [g a])) → wipeS s vs = s0 → acc.length + xs.length ≤ 16000000 → ∃ s', lcL tt vs c f (xs.map emb) s acc = .ok (acc ++ xs.map g) s' ∧ wipeS s' vs = s0
  | [], s, acc, _, hs, _ => ⟨s, by rw [List.map_nil, x_lcL0, List.map_nil, List.append_nil], hs⟩
  | d :: ds, s, acc, h, hs, hl => by
    obtain ⟨s1, e1, h1⟩ := h d (by simp)
    rw [List.length_cons] at hl
    rw [List.map_cons, x_lcL, hs, h1 _ acc (by omega)]
    obtain ⟨s2, e2, h2⟩ := lcL_mapA (xs := ds) (acc := acc ++ [g d]) (fun d' hd => h d' (List.mem_cons_of_mem _ hd)) e1 (by rw [List.length_append, List.length_singleton]; omega)
    exact ⟨s2, by rw [e2, List.append_assoc, List.map_cons]; rfl, h2⟩
/-- a comprehension over such items -/
theorem lcE_mapA {α : Type} {tt : D → Sl → Option Sl} {vs : List Nat} {c : Sl → R Bool} {f : Sl → R EV} {gi : Sl → R (List D)} {s s1 s0 : Sl} (xs : List α) (emb g : α → D) (hg : gi s = .ok (xs.map emb) s1) (hs : wipeS s1 vs = s0) (h : ∀ a ∈ xs, ∃ s', wipeS s' vs = s0 ∧ ∀ (ds' acc : List D), acc.length < 16000000 → lc1 tt vs c f ds' acc (tt (emb a) s0) = lcL tt vs c f ds' s' (acc ++ [g a])) (hl : xs.length ≤ 16000000) :
    lcE gi tt vs c f s = .ok (.val (.lst true (xs.map g))) s0 := by
  obtain ⟨s', e, h'⟩ := lcL_mapA (acc := []) h hs (by simpa using hl)
  rw [x_lcE, hg, x_bind1, x_lc0, e, x_bind1, x_lcN, List.nil_append, h']
theorem zip_ptD : ∀ {ts : List Tm} {bs : List (List Str)}, List.zipWith ptD ts bs = (ts.zip bs).map fun p => ptD p.1 p.2
  | [], bs => by simp
  | t :: ts, [] => by simp
  | t :: ts, b :: bs => by rw [List.zipWith_cons_cons, List.zip_cons_cons, List.map_cons, zip_ptD]
theorem zip_fst {β : Type} {f : Tm → β} : ∀ {ts : List Tm} {bs : List (List Str)}, ts.length = bs.length → (ts.zip bs).map (fun p => f p.1) = ts.map f
  | [], bs, _ => by simp
  | t :: ts, [], h => by simp at h
  | t :: ts, b :: bs, h => by rw [List.zip_cons_cons, List.map_cons, List.map_cons, zip_fst (by simpa using h)]
theorem zip_len {ts : List Tm} {bs : List (List Str)} (h : ts.length = bs.length) : (ts.zip bs).length = ts.length := by
  rw [List.length_zip]; omega
theorem dints_map : ∀ ns : List Int, dints (ns.map .int) = some ns
  | [] => rfl
  | n :: ns => by rw [List.map_cons, dints, dints_map ns]; rfl
@[simp] theorem x_sum {b : Bool} {ns : List Int} : BI.op .sum [.lst b (ns.map .int)] = some (.int ns.sum) := by
  show ((D.seq (.lst b (ns.map .int))).bind dints).map (fun ns => D.int ns.sum) = _
  rw [D.seq, Option.bind_some, dints_map]
  rfl
theorem x_max {b : Bool} {ns : List Int} : BI.op .max [.lst b (ns.map .int)] = (lmax ns).map .int := by
  show ((D.seq (.lst b (ns.map .int))).bind dints).bind (fun ns => (lmax ns).map D.int) = _
  rw [D.seq, Option.bind_some, dints_map]
  rfl
theorem lmax_le : ∀ {ns : List Int} {m : Int}, lmax ns = some m → m ∈ ns ∧ ∀ x ∈ ns, x ≤ m
  | [], m, h => by cases h
  | n :: ns, m, h => by
    rw [lmax] at h
    cases e : lmax ns with
    | none =>
      rw [e] at h
      cases h
      have : ns = [] := by
        cases ns with
        | nil => rfl
        | cons a r => rw [lmax] at e; split at e <;> cases e
      subst this
      simp
    | some y =>
      rw [e] at h
      obtain ⟨h1, h2⟩ := lmax_le e
      cases h
      refine ⟨?_, fun x hx => ?_⟩
      · split
        · exact List.mem_cons_of_mem _ h1
        · simp
      · rcases List.mem_cons.mp hx with rfl | hx
        · split <;> omega
        · have := h2 x hx
          split <;> omega
theorem lmax_some : ∀ {ns : List Int}, ns ≠ [] → ∃ m, lmax ns = some m
  | [], h => absurd rfl h
  | n :: ns, _ => by
    rw [lmax]
    cases lmax ns with
    | none => exact ⟨n, rfl⟩
    | some y => exact ⟨_, rfl⟩
theorem lmax_eq {ns : List Int} {m : Int} (h1 : m ∈ ns) (h2 : ∀ x ∈ ns, x ≤ m) : lmax ns = some m := by
  obtain ⟨m', e⟩ := lmax_some (ns := ns) (by rintro rfl; cases h1)
  obtain ⟨h3, h4⟩ := lmax_le e
  rw [e, Int.le_antisymm (h2 m' h3) (h4 m h1)]
section
variable {cP cZ : Nat → List D → CR}
theorem szs_sum : ∀ ts : List Tm, (ts.map fun t => ((t.sz : Nat) : Int)).sum = ((Tm.szs ts : Nat) : Int)
  | [] => rfl
  | t :: ts => by rw [List.map_cons, List.sum_cons, szs_sum ts, Tm.szs]; omega
theorem hts_max (ts : List Tm) : lmax (0 :: ts.map fun t => ((t.ht : Nat) : Int)) = some ((Tm.hts ts : Nat) : Int) := by
    refine lmax_eq ?_ ?_
    · induction ts with
      | nil => simp [Tm.hts]
      | cons t ts ih =>
        rw [Tm.hts]
        rcases Nat.le_total t.ht (Tm.hts ts) with h | h
        · rw [Nat.max_eq_right h]
          rcases List.mem_cons.mp ih with ih | ih
          · rw [ih]; simp
          · exact List.mem_cons_of_mem _ (List.mem_cons_of_mem _ ih)
        · rw [Nat.max_eq_left h]; simp
    · intro x hx
      rcases List.mem_cons.mp hx with rfl | hx
      · omega
      · obtain ⟨t, ht, rfl⟩ := List.mem_map.mp hx
        have := ht_pos ts t ht
        omega
theorem size_ok (qZ : ∀ k ds, cZ (k + 1) ds = calOf (M_size (cP k) (cZ k)) 3 [true] ds) (qP : ∀ k ds, cP (k + 1) ds = calOf M_parts 7 [true] ds) :
    ∀ (k : Nat) (t : Tm), t.ok = true → t.ht ≤ k → cZ (k + 1) [t.d] = .ok (.int ((t.sz : Nat) : Int)) [some t.d]
  | 0, .mk h ts, _, hk => by rw [Tm.ht] at hk; omega
  | k + 1, .mk h ts, ht, hk => by
    obtain ⟨hl, hs⟩ := ok_mk ht
    have ha := ok_ar ht
    rw [Tm.ht] at hk
    have hP := parts_ok qP k (.mk h ts) ht
    have hbl := Hd.bnd_len h
    have p1 : plainL (List.zipWith ptD ts h.bnd) = true := plain_parts
    rw [show Tm.parts (.mk h ts) = List.zipWith ptD ts h.bnd from rfl] at hP
    have e0 := lcE_mapA (c := yesT) (f := M_size_e0 (cP (k + 1)) (cZ (k + 1))) (tt := tgT' [1, 2]) (vs := [1, 2]) (gi := plI (seqI (callE (cP (k + 1)) [true] [(nameE 0)]))) (s := [some (Tm.d (.mk h ts)), none, none]) (s1 := [some (Tm.d (.mk h ts)), none, none]) (s0 := [some (Tm.d (.mk h ts)), none, none]) (ts.zip h.bnd) (fun p => ptD p.1 p.2) (fun p => .int ((p.1.sz : Nat) : Int)) (by rw [← zip_ptD]; simp [hP, p1]) rfl (fun p hp => by
      obtain ⟨t, ns⟩ := p
      have hm : t ∈ ts := (List.of_mem_zip hp).1
      have h2 := ht_pos ts t hm
      have h1 := size_ok qZ qP k t (oks_mem hs hm) (by omega)
      have hn : (nsD ns).own = false := rfl
      refine ⟨[some (Tm.d (.mk h ts)), some t.d, some (nsD ns)], rfl, fun ds' acc hl => ?_⟩
      simp [M_size_e0, ptD, hl, h1, hn]) (by rw [zip_len (by omega)]; omega)
    rw [zip_fst (f := fun t => D.int ((t.sz : Nat) : Int)) (by omega), show (ts.map fun t => D.int ((t.sz : Nat) : Int)) = (ts.map fun t => ((t.sz : Nat) : Int)).map D.int by rw [List.map_map]; rfl] at e0
    have hz := szs_sum ts
    rw [qZ, x_calOf]
    generalize (ts.map fun t => ((t.sz : Nat) : Int)) = Z at *
    simp [M_size, begS, e0, hz, Tm.sz]
    omega
theorem depth_ok (qZ : ∀ k ds, cZ (k + 1) ds = calOf (M_depth (cP k) (cZ k)) 3 [true] ds) (qP : ∀ k ds, cP (k + 1) ds = calOf M_parts 7 [true] ds) :
    ∀ (k : Nat) (t : Tm), t.ok = true → t.ht ≤ k → cZ (k + 1) [t.d] = .ok (.int ((t.ht : Nat) : Int)) [some t.d]
  | 0, .mk h ts, _, hk => by rw [Tm.ht] at hk; omega
  | k + 1, .mk h ts, ht, hk => by
    obtain ⟨hl, hs⟩ := ok_mk ht
    have ha := ok_ar ht
    rw [Tm.ht] at hk
    have hP := parts_ok qP k (.mk h ts) ht
    have hbl := Hd.bnd_len h
    have p1 : plainL (List.zipWith ptD ts h.bnd) = true := plain_parts
    rw [show Tm.parts (.mk h ts) = List.zipWith ptD ts h.bnd from rfl] at hP
    have e0 := lcE_mapA (c := yesT) (f := M_depth_e0 (cP (k + 1)) (cZ (k + 1))) (tt := tgT' [1, 2]) (vs := [1, 2]) (gi := plI (seqI (callE (cP (k + 1)) [true] [(nameE 0)]))) (s := [some (Tm.d (.mk h ts)), none, none]) (s1 := [some (Tm.d (.mk h ts)), none, none]) (s0 := [some (Tm.d (.mk h ts)), none, none]) (ts.zip h.bnd) (fun p => ptD p.1 p.2) (fun p => .int ((p.1.ht : Nat) : Int)) (by rw [← zip_ptD]; simp [hP, p1]) rfl (fun p hp => by
      obtain ⟨t, ns⟩ := p
      have hm : t ∈ ts := (List.of_mem_zip hp).1
      have h2 := ht_pos ts t hm
      have h1 := depth_ok qZ qP k t (oks_mem hs hm) (by omega)
      have hn : (nsD ns).own = false := rfl
      refine ⟨[some (Tm.d (.mk h ts)), some t.d, some (nsD ns)], rfl, fun ds' acc hl => ?_⟩
      simp [M_depth_e0, ptD, hl, h1, hn]) (by rw [zip_len (by omega)]; omega)
    rw [zip_fst (f := fun t => D.int ((t.ht : Nat) : Int)) (by omega), show (ts.map fun t => D.int ((t.ht : Nat) : Int)) = (ts.map fun t => ((t.ht : Nat) : Int)).map D.int by rw [List.map_map]; rfl] at e0
    have hz := hts_max ts
    have hn : (ts.map fun t => ((t.ht : Nat) : Int)).length = ts.length := List.length_map _
    rw [qZ, x_calOf]
    generalize (ts.map fun t => ((t.ht : Nat) : Int)) = Z at *
    have hz2 : BI.op .max [.lst false (.int 0 :: Z.map .int)] = some (.int ((Tm.hts ts : Nat) : Int)) := by
      have := x_max (b := false) (ns := 0 :: Z)
      rw [hz] at this
      exact this
    have hz3 : 1 + Z.length ≤ 16000000 := by omega
    have hz4 : Z.length + 1 ≤ 16000000 := by omega
    simp [M_depth, begS, e0, hz2, hz3, hz4, Tm.ht]
    omega
/-- the program's places -/
theorem pl_l {k : Nat} {td : D} : ∀ {ts : List Tm} {bs : List (List Str)} {i : Nat} {fo : List D} {o2 o3 : Option D}, ts.length = bs.length → (∀ t ∈ ts, cZ k [t.d] = .ok (.lst true ((PL t).map pathD)) [some t.d]) → (∀ t ∈ ts, t.ht < 1000) → fo.length + Tm.szs ts < 16000000 →
    ∃ p2 p3, forL (stepS (tgT' [2, 3]) (M_places_f1 (cP k) (cZ k))) (enumL i (List.zipWith ptD ts bs)) [some td, some (.lst true fo), o2, o3, none] = .nx [some td, some (.lst true (fo ++ (PLs i ts).map pathD)), p2, p3, none]
  | [], bs, i, fo, o2, o3, _, _, _, _ => ⟨o2, o3, by rw [PLs]; simp [enumL]⟩
  | t :: ts, [], i, fo, o2, o3, hl, _, _, _ => by simp at hl
  | t :: ts, ns :: bs, i, fo, o2, o3, hl, ih, hh, hc => by
    rw [Tm.szs] at hc
    have h1 := ih t (by simp)
    have hlp := PL_len t
    have hs : ∀ p ∈ PL t, p.length < 1000 := fun p h => Nat.lt_trans (PL_short t p h) (hh t (by simp))
    have hy : ixD (.tup [t.d, nsD ns]) (.int 0) = some t.d := rfl
    have hpl : plainL ((PL t).map pathD) = true := plain_paths
    have e0 := lcE_mapA (c := yesT) (f := M_places_e0 (cP k) (cZ k)) (tt := tgN 4) (vs := [4]) (gi := plI (seqI (callE (cZ k) [true] [(bin2 (nameE 3) (constE (.int 0)) ixK)]))) (s := [some td, some (.lst true fo), some (.int (i : Nat)), some (ptD t ns), none]) (s1 := [some td, some (.lst true fo), some (.int (i : Nat)), some (ptD t ns), none]) (s0 := [some td, some (.lst true fo), some (.int (i : Nat)), some (ptD t ns), none]) (PL t) pathD (fun p => pathD (i :: p)) (by simp [ptD, hy, h1, hpl]) rfl (fun p hp => by
      have hl := hs p hp
      have hz : p.length + 1 ≤ 16000000 := by omega
      have hpp : plainL (p.map fun (i : Nat) => D.int i) = true := plain_of fun d hd => by
        obtain ⟨x, _, rfl⟩ := List.mem_map.mp hd
        rfl
      have hev : evVs ((p.map fun (i : Nat) => D.int i).map EV.val ++ []) [some td, some (.lst true fo), some (.int (i : Nat)), some (ptD t ns), some (pathD p)] = some ((p.map fun (i : Nat) => D.int i) ++ [], [some td, some (.lst true fo), some (.int (i : Nat)), some (ptD t ns), some (pathD p)]) := evVs_vals _ (fun d hd => by
        obtain ⟨x, _, rfl⟩ := List.mem_map.mp hd
        rfl) rfl
      rw [List.append_nil, List.append_nil] at hev
      refine ⟨[some td, some (.lst true fo), some (.int (i : Nat)), some (ptD t ns), some (pathD p)], rfl, fun ds' acc hl => ?_⟩
      simp only [pathD] at hev
      simp [M_places_e0, hl, pathD, hpp, -List.map_map]
      rw [hev]
      simp [hz, hl]) (by omega)
    have hz : fo.length + (PL t).length ≤ 16000000 := by omega
    have hstep : stepS (tgT' [2, 3]) (M_places_f1 (cP k) (cZ k)) (.tup [.int (i : Nat), ptD t ns]) [some td, some (.lst true fo), o2, o3, none] = .nx [some td, some (.lst true (fo ++ ((PL t).map (i :: ·)).map pathD)), some (.int (i : Nat)), some (ptD t ns), none] := by
      have st : stepS (tgT' [2, 3]) (M_places_f1 (cP k) (cZ k)) (.tup [.int (i : Nat), ptD t ns]) [some td, some (.lst true fo), o2, o3, none] = M_places_f1 (cP k) (cZ k) [some td, some (.lst true fo), some (.int (i : Nat)), some (ptD t ns), none] := by
        have : (ptD t ns).own = false := rfl
        simp [this]
      rw [st]
      simp [M_places_f1, e0, hz]
    rw [List.zipWith_cons_cons, enumL, x_forL, hstep, x_for1]
    obtain ⟨p2, p3, e⟩ := pl_l (k := k) (td := td) (ts := ts) (bs := bs) (i := i + 1) (fo := fo ++ ((PL t).map (i :: ·)).map pathD) (o2 := some (.int (i : Nat))) (o3 := some (ptD t ns)) (by simpa using hl) (fun t' h' => ih t' (List.mem_cons_of_mem _ h')) (fun t' h' => hh t' (List.mem_cons_of_mem _ h')) (by rw [List.length_append, List.length_map, List.length_map]; omega)
    refine ⟨p2, p3, ?_⟩
    rw [e, PLs, List.map_append, ← List.append_assoc]
theorem places_ok (qZ : ∀ k ds, cZ (k + 1) ds = calOf (M_places (cP k) (cZ k)) 5 [true] ds) (qP : ∀ k ds, cP (k + 1) ds = calOf M_parts 7 [true] ds) :
    ∀ (k : Nat) (t : Tm), t.ok = true → t.sz < 16000000 → t.ht ≤ k → k < 1000 → cZ (k + 1) [t.d] = .ok (.lst true ((PL t).map pathD)) [some t.d]
  | 0, .mk h ts, _, _, hk, _ => by rw [Tm.ht] at hk; omega
  | k + 1, .mk h ts, ht, hc, hk, hk2 => by
    obtain ⟨hl, hs⟩ := ok_mk ht
    rw [Tm.ht] at hk
    rw [Tm.sz] at hc
    have ih : ∀ t ∈ ts, cZ (k + 1) [t.d] = .ok (.lst true ((PL t).map pathD)) [some t.d] := fun t h => by
      have h1 := szs_mem h
      have h2 := ht_pos ts t h
      exact places_ok qZ qP k t (oks_mem hs h) (by omega) (by omega) (by omega)
    have hh : ∀ t ∈ ts, t.ht < 1000 := fun t h => by
      have h2 := ht_pos ts t h
      omega
    have hP := parts_ok qP k (.mk h ts) ht
    have hbl := Hd.bnd_len h
    obtain ⟨p2, p3, e1⟩ := pl_l (cP := cP) (cZ := cZ) (k := k + 1) (td := Tm.d (.mk h ts)) (ts := ts) (bs := h.bnd) (i := 0) (fo := [.tup []]) (o2 := none) (o3 := none) (by omega) ih hh (by simp; omega)
    rw [show Tm.parts (.mk h ts) = List.zipWith ptD ts h.bnd from rfl] at *
    rw [qZ, x_calOf, PL]
    simp [M_places, begS, hP, e1, pathD]
end
end NS
namespace NS
open PySem PySem.Spec PyProof.Rows L2
/-! ## 40. the part at a place -/
def ipD (p : List Int) : D := .tup (p.map .int)
theorem pathD_ip (p : List Nat) : pathD p = ipD (p.map fun (i : Nat) => (i : Int)) := by
  unfold pathD ipD
  rw [List.map_map]
  rfl
def PAt : Tm → List Int → Option Tm
  | t, [] => some t
  | .mk _ ts, i :: p => if 0 ≤ i ∧ i < (ts.length : Nat) then PAt (ts.getD i.toNat holeT) p else none
def oD : Option Tm → D
  | some t => t.d
  | none => .non
theorem PAt_ok : ∀ {p : List Int} {t t' : Tm}, t.ok = true → PAt t p = some t' → t'.ok = true
  | [], t, t', h, e => by rw [PAt] at e; cases e; exact h
  | i :: p, .mk h ts, t', ht, e => by
    rw [PAt] at e
    split at e
    · rename_i hi
      exact PAt_ok (oks_get (ok_mk ht).2 (by omega)) e
    · cases e
theorem getD_ht {ts : List Tm} {i : Nat} (h : i < ts.length) : (ts.getD i holeT).ht ≤ Tm.hts ts := by
  have hm : ts.getD i holeT ∈ ts := by simp [h]
  exact ht_pos ts _ hm
theorem PAt_ht : ∀ {p : List Int} {t t' : Tm}, PAt t p = some t' → t'.ht ≤ t.ht
  | [], t, t', e => by rw [PAt] at e; cases e; exact Nat.le_refl _
  | i :: p, .mk h ts, t', e => by
    rw [PAt] at e
    split at e
    · rename_i hi
      have h1 := PAt_ht e
      have h2 := getD_ht (ts := ts) (i := i.toNat) (by omega)
      rw [Tm.ht]
      omega
    · cases e
section
variable {cP cA cB : Nat → List D → CR}
theorem plain_ints {p : List Int} : plainL (p.map D.int) = true := plain_of fun d hd => by
  obtain ⟨x, _, rfl⟩ := List.mem_map.mp hd
  rfl
/-- the loop along a place, by parts_ok or the law's own -/
def patR (o : Option Tm) (f : Sl → Prop) (F : Fl) : Prop := match o with
  | some t => ∃ s, F = .nx s ∧ s[0]? = some (some t.d) ∧ f s
  | none => ∃ s, F = .rt .non s ∧ f s
theorem pat_l {F : Sl → Fl} {pd : D} (hF : ∀ (t : Tm) (i : Int) (o2 o3 : Option D), t.ok = true → ∃ p3, F [some t.d, some pd, some (.int i), o3] = (if 0 ≤ i ∧ i < (t.subs.length : Nat) then .nx [some (t.subs.getD i.toNat holeT).d, some pd, some (.int i), p3] else .rt .non [some t.d, some pd, some (.int i), p3])) :
    ∀ {p : List Int} {t : Tm} {o2 o3 : Option D}, t.ok = true → patR (PAt t p) (fun s => s.length = 4 ∧ s[1]? = some (some pd)) (forL (stepS (tgN 2) F) (p.map .int) [some t.d, some pd, o2, o3])
  | [], t, o2, o3, ht => ⟨_, rfl, rfl, rfl, rfl⟩
  | i :: p, .mk h ts, o2, o3, ht => by
    obtain ⟨p3, e⟩ := hF (.mk h ts) i o2 o3 ht
    have hs : stepS (tgN 2) F (.int i) [some (Tm.mk h ts).d, some pd, o2, o3] = F [some (Tm.mk h ts).d, some pd, some (.int i), o3] := by simp
    rw [List.map_cons, x_forL, hs, e, PAt]
    show patR (if 0 ≤ i ∧ i < (ts.length : Nat) then _ else _) _ (for1 _ _ (if 0 ≤ i ∧ i < (ts.length : Nat) then _ else _))
    split
    · rename_i hi
      exact pat_l hF (oks_get (ok_mk ht).2 (by omega))
    · exact ⟨_, rfl, rfl, rfl⟩
theorem part_step {k : Nat} {pd : D} {t : Tm} {i : Int} {o2 o3 : Option D} (hP : cP k [t.d] = .ok (.lst true t.parts) [some t.d]) (ht : t.ok = true) : ∃ p3, M_part_at_f0 (cP k) [some t.d, some pd, some (.int i), o3] = (if 0 ≤ i ∧ i < (t.subs.length : Nat) then .nx [some (t.subs.getD i.toNat holeT).d, some pd, some (.int i), p3] else .rt .non [some t.d, some pd, some (.int i), p3]) := by
  obtain ⟨h, ts⟩ := t
  have hl := (ok_mk ht).1
  have hbl := Hd.bnd_len h
  have hlen : (List.zipWith ptD ts h.bnd).length = ts.length := by rw [List.length_zipWith]; omega
  refine ⟨some (.lst true (List.zipWith ptD ts h.bnd)), ?_⟩
  rw [show Tm.parts (.mk h ts) = List.zipWith ptD ts h.bnd from rfl] at hP
  show _ = if 0 ≤ i ∧ i < (ts.length : Nat) then Fl.nx [some (ts.getD i.toNat holeT).d, _, _, _] else _
  by_cases h0 : 0 ≤ i
  · obtain ⟨n, rfl⟩ := Int.eq_ofNat_of_zero_le h0
    by_cases h1 : n < ts.length
    · have hx := part_get (b := false) h1 (show ts.length = h.bnd.length by omega)
      have hy : ixD (.tup [(ts.getD n holeT).d, nsD (h.bnd.getD n [])]) (.int 0) = some (ts.getD n holeT).d := rfl
      have h2 : (0 : Int) ≤ (n : Int) ∧ (n : Int) < ((ts.length : Nat) : Int) := by omega
      have h3 : (n : Int) < ((ts.length : Nat) : Int) := h2.2
      rw [if_pos h2, Int.toNat_natCast]
      have ho := Tm.d_own (ts.getD n holeT)
      generalize ts.getD n holeT = ti at *
      generalize hbi : h.bnd.getD n [] = bi at *
      generalize hZ : List.zipWith ptD ts h.bnd = Z at *
      simp [M_part_at_f0, hP, hlen, hx, hy, h1, h3]
    · have h2 : ¬ ((0 : Int) ≤ (n : Int) ∧ (n : Int) < ((ts.length : Nat) : Int)) := by omega
      have h3 : ¬ (n : Int) < ((ts.length : Nat) : Int) := by omega
      rw [if_neg h2]
      generalize hZ : List.zipWith ptD ts h.bnd = Z at *
      simp [M_part_at_f0, hP, hlen, h1, h3]
  · have h2 : ¬ ((0 : Int) ≤ i ∧ i < ((ts.length : Nat) : Int)) := by omega
    rw [if_neg h2]
    generalize hZ : List.zipWith ptD ts h.bnd = Z at *
    simp [M_part_at_f0, hP, h0]
theorem lawpart_step : @M_law_part_f0 = @M_part_at_f0 := rfl
theorem part_at_ok (qA : ∀ k ds, cA (k + 1) ds = calOf (M_part_at (cP k)) 4 [false, true] ds) {k : Nat} (hP : ∀ t : Tm, t.ok = true → cP k [t.d] = .ok (.lst true t.parts) [some t.d]) (t : Tm) (p : List Int) (ht : t.ok = true) : cA (k + 1) [t.d, ipD p] = .ok (oD (PAt t p)) [none, some (ipD p)] := by
  have z := pat_l (F := M_part_at_f0 (cP k)) (pd := ipD p) (fun t i o2 o3 h => part_step (o2 := o2) (hP t h) h) (p := p) (t := t) (o2 := none) (o3 := none) ht
  have p1 : plainL (p.map D.int) = true := plain_ints
  have hit : ipD p = .tup (p.map .int) := rfl
  rw [qA, x_calOf]
  cases hq : PAt t p with
  | none =>
    rw [hq] at z
    obtain ⟨s, e, hl, h1⟩ := z
    obtain ⟨a, b, c, d, rfl⟩ : ∃ a b c d, s = [a, b, c, d] := by
      match s, hl with
      | [a, b, c, d], _ => exact ⟨a, b, c, d, rfl⟩
    cases h1
    simp only [hit] at e
    simp [M_part_at, begS, hit, p1, e, oD]
  | some t' =>
    rw [hq] at z
    obtain ⟨s, e, h0, hl, h1⟩ := z
    obtain ⟨a, b, c, d, rfl⟩ : ∃ a b c d, s = [a, b, c, d] := by
      match s, hl with
      | [a, b, c, d], _ => exact ⟨a, b, c, d, rfl⟩
    cases h0
    cases h1
    simp only [hit] at e
    simp [M_part_at, begS, hit, p1, e, oD]
theorem lawpart_ok (qA : ∀ k ds, cA (k + 1) ds = calOf (M_law_part (cP k)) 4 [false, true] ds) {k : Nat} (hP : ∀ t : Tm, t.ok = true → cP k [t.d] = .ok (.lst true t.parts) [some t.d]) (t : Tm) (p : List Int) (ht : t.ok = true) : cA (k + 1) [t.d, ipD p] = .ok (oD (PAt t p)) [none, some (ipD p)] :=
  part_at_ok (cA := cA) (cP := cP) qA hP t p ht
end
/-! a part put -/
def PUT : Tm → List Nat → Tm → Tm
  | _, [], o => o
  | .mk h ts, i :: p, o => .mk h (ts.set i (PUT (ts.getD i holeT) p o))
theorem oks_set : ∀ {ts : List Tm} {i : Nat} {t : Tm}, Tm.oks ts = true → t.ok = true → Tm.oks (ts.set i t) = true
  | [], i, t, h, _ => h
  | a :: ts, 0, t, h, ht => by
    have h : (a.ok && Tm.oks ts) = true := h
    rw [Bool.and_eq_true] at h
    show (t.ok && Tm.oks ts) = true
    rw [ht, h.2]; rfl
  | a :: ts, i + 1, t, h, ht => by
    have h : (a.ok && Tm.oks ts) = true := h
    rw [Bool.and_eq_true] at h
    show (a.ok && Tm.oks (ts.set i t)) = true
    rw [h.1, oks_set h.2 ht]; rfl
theorem mk_ok {h : Hd} {ts : List Tm} (h1 : ts.length = h.ar) (h2 : h.fine = true) (h3 : Tm.oks ts = true) : (Tm.mk h ts).ok = true := by
  show (Nat.beq ts.length h.ar && (h.fine && Tm.oks ts)) = true
  rw [h1, h2, h3, Nat.beq_refl]; rfl
theorem PUT_ok : ∀ {p : List Nat} {t o : Tm}, t.ok = true → o.ok = true → VP t p → (PUT t p o).ok = true
  | [], t, o, _, ho, _ => by rw [PUT]; exact ho
  | i :: p, .mk h ts, o, ht, ho, hv => by
    rw [PUT]
    exact mk_ok (by rw [List.length_set]; exact (ok_mk ht).1) (ok_fine ht) (oks_set (ok_mk ht).2 (PUT_ok (oks_get (ok_mk ht).2 hv.1) ho hv.2))
theorem hts_set : ∀ {ts : List Tm} {i : Nat} {t : Tm} {n : Nat}, Tm.hts ts ≤ n → t.ht ≤ n → Tm.hts (ts.set i t) ≤ n
  | [], i, t, n, h, _ => h
  | a :: ts, 0, t, n, h, ht => by
    rw [Tm.hts] at h
    show Tm.hts (t :: ts) ≤ n
    rw [Tm.hts]; omega
  | a :: ts, i + 1, t, n, h, ht => by
    rw [Tm.hts] at h
    show Tm.hts (a :: ts.set i t) ≤ n
    have := hts_set (ts := ts) (i := i) (t := t) (n := n) (by omega) ht
    rw [Tm.hts]; omega
theorem PUT_ht : ∀ {p : List Nat} {t o : Tm}, VP t p → (PUT t p o).ht ≤ t.ht + o.ht
  | [], t, o, _ => by rw [PUT]; omega
  | i :: p, .mk h ts, o, hv => by
    have h1 := PUT_ht (p := p) (t := ts.getD i holeT) (o := o) hv.2
    have h2 := getD_ht (ts := ts) (i := i) hv.1
    rw [PUT, Tm.ht, Tm.ht]
    have := hts_set (ts := ts) (i := i) (t := PUT (ts.getD i holeT) p o) (n := Tm.hts ts + o.ht) (by omega) (by omega)
    omega
mutual
theorem VP_PL : ∀ (t : Tm) (p : List Nat), p ∈ PL t → VP t p
  | .mk h ts, p, hp => by
    rw [PL, List.mem_cons] at hp
    rcases hp with rfl | hp
    · exact trivial
    · obtain ⟨j, q, rfl, hj, hv⟩ := VP_PLs 0 ts p hp
      rw [Nat.zero_add]
      exact ⟨hj, hv⟩
theorem VP_PLs : ∀ (i : Nat) (ts : List Tm) (p : List Nat), p ∈ PLs i ts → ∃ j q, p = (i + j) :: q ∧ j < ts.length ∧ VP (ts.getD j holeT) q
  | i, [], p, hp => by rw [PLs] at hp; cases hp
  | i, t :: ts, p, hp => by
    rw [PLs, List.mem_append] at hp
    rcases hp with hp | hp
    · obtain ⟨q, hq, rfl⟩ := List.mem_map.mp hp
      exact ⟨0, q, rfl, by simp, VP_PL t q hq⟩
    · obtain ⟨j, q, rfl, hj, hv⟩ := VP_PLs (i + 1) ts p hp
      exact ⟨j + 1, q, by rw [show i + 1 + j = i + (j + 1) by omega], by simpa using hj, hv⟩
end
theorem PAt_VP : ∀ {p : List Nat} {t : Tm}, VP t p → ∃ t', PAt t (p.map fun (i : Nat) => (i : Int)) = some t'
  | [], t, _ => ⟨t, by rw [List.map_nil, PAt]⟩
  | i :: p, .mk h ts, hv => by
    obtain ⟨t', e⟩ := PAt_VP hv.2
    refine ⟨t', ?_⟩
    have hi := hv.1
    rw [List.map_cons, PAt, if_pos (by omega), Int.toNat_natCast]
    exact e
end NS
namespace NS
open PySem PySem.Spec PyProof.Rows L2
/-! ## 41. parts exchanged -/
section
variable {f g : Sl → R EV} {s : Sl} {es : List EV} {d1 d2 : D} {xs ys : List D}
def zip2 (o1 o2 : Option (List D)) (s : Sl) : R (List D) := match o1, o2 with
  | some xs, some ys => .ok (zipL xs ys) s
  | _, _ => .no
def zipO (o : Option (List D × Sl)) : R (List D) := match o with
  | some ([d1, d2], s2) => zip2 d1.zit d2.zit s2
  | _ => .no
def zipK (es : List EV) (s : Sl) : R (List D) := zipO (evVs es s)
@[simp] theorem x_zipI : zipI f g s = (argsE [f, g] s).bind zipK := by
  have e : ∀ (o : Option (List D × Sl)), (match o with
  | some ([d1, d2], s2) => match d1.zit, d2.zit with
    | some xs, some ys => R.ok (zipL xs ys) s2
    | _, _ => .no
  | _ => .no : R (List D)) = zipO o := by
    intro o
    rcases o with _ | ⟨l, s2⟩
    · rfl
    · rcases l with _ | ⟨a, _ | ⟨b, _ | ⟨c, r⟩⟩⟩
      · rfl
      · rfl
      · unfold zipO zip2
        try dsimp only
        try (cases a.zit <;> cases b.zit <;> rfl)
      · rfl
  show (argsE [f, g] s).bind _ = (argsE [f, g] s).bind _
  congr 1
  try (funext es s1; exact e (evVs es s1))
@[simp] theorem x_zipK : zipK es s = zipO (evVs es s) := rfl
@[simp] theorem x_zipO : zipO (some ([d1, d2], s)) = zip2 d1.zit d2.zit s := rfl
@[simp] theorem x_zip2 : zip2 (some xs) (some ys) s = .ok (zipL xs ys) s := rfl
@[simp] theorem x_zit1 : D.zit (.tup xs) = some xs := rfl
@[simp] theorem x_zit2 {b : Bool} : D.zit (.lst b xs) = some xs := rfl
end
theorem cut_tail {a : D} {xs : List D} : cutD (a :: xs) (some 1) none = xs := by
  unfold cutD
  rw [HT.sIx_none, show (1 : Int) = ((1 : Nat) : Int) from rfl, HT.sIx_nat]
  simp
theorem mem_ds : ∀ {ts : List Tm} {d : D}, d ∈ Tm.ds ts → ∃ t ∈ ts, d = t.d
  | [], d, h => by cases h
  | t :: ts, d, h => by
    have h : d ∈ t.d :: Tm.ds ts := h
    rcases List.mem_cons.mp h with rfl | h
    · exact ⟨t, by simp, rfl⟩
    · obtain ⟨t', h1, h2⟩ := mem_ds h
      exact ⟨t', List.mem_cons_of_mem _ h1, h2⟩
theorem ds_plain {ts : List Tm} : plainL (Tm.ds ts) = true := plain_of fun d hd => by
  obtain ⟨t, _, rfl⟩ := mem_ds hd
  exact Tm.d_own t
theorem ds_frz {ts : List Tm} : ∀ d ∈ Tm.ds ts, d.frz = d := fun d hd => by
  obtain ⟨t, _, rfl⟩ := mem_ds hd
  exact Tm.d_frz t
theorem ds_get : ∀ {ts : List Tm} {j : Nat}, j < ts.length → (Tm.ds ts)[j]? = some (ts.getD j holeT).d
  | [], j, h => by cases h
  | t :: ts, 0, h => rfl
  | t :: ts, j + 1, h => ds_get (ts := ts) (j := j) (by simpa using h)
theorem ds_set : ∀ {ts : List Tm} {j : Nat} {t : Tm}, Tm.ds (ts.set j t) = (Tm.ds ts).set j t.d
  | [], j, t => rfl
  | a :: ts, 0, t => rfl
  | a :: ts, j + 1, t => congrArg (a.d :: ·) (ds_set (ts := ts) (j := j) (t := t))
theorem rowsD_get : ∀ {xs : List Str} {ts : List Tm} {j : Nat}, j < xs.length → xs.length ≤ ts.length → (rowsD xs ts)[j]? = some (.tup [.str (xs.getD j ""), (ts.getD j holeT).d])
  | [], ts, j, h, _ => by cases h
  | x :: xs, [], j, _, h => by simp at h
  | x :: xs, t :: ts, 0, _, _ => rfl
  | x :: xs, t :: ts, j + 1, h, h2 => rowsD_get (xs := xs) (ts := ts) (j := j) (by simpa using h) (by simpa using h2)
theorem casesD_get : ∀ {xs : List (Str × List Str)} {ts : List Tm} {j : Nat}, j < xs.length → xs.length ≤ ts.length → (casesD xs ts)[j]? = some (.tup [.str (xs.getD j ("", [])).1, nsD (xs.getD j ("", [])).2, (ts.getD j holeT).d])
  | [], ts, j, h, _ => by cases h
  | x :: xs, [], j, _, h => by simp at h
  | x :: xs, t :: ts, 0, _, _ => rfl
  | x :: xs, t :: ts, j + 1, h, h2 => casesD_get (xs := xs) (ts := ts) (j := j) (by simpa using h) (by simpa using h2)
theorem rows_range {xs : List Str} {ts : List Tm} (h : xs.length ≤ ts.length) : (List.range xs.length).map (fun j => D.tup [.str (xs.getD j ""), (ts.getD j holeT).d]) = rowsD xs ts := by
  refine List.ext_getElem? fun j => ?_
  have hl := rowsD_len h
  by_cases hj : j < xs.length
  · rw [rowsD_get hj h, List.getElem?_map, List.getElem?_range hj]; rfl
  · rw [List.getElem?_eq_none (by simp; omega), List.getElem?_eq_none (by omega)]
theorem cases_range {xs : List (Str × List Str)} {ts : List Tm} (h : xs.length ≤ ts.length) : (List.range xs.length).map (fun j => D.tup [.str (xs.getD j ("", [])).1, nsD (xs.getD j ("", [])).2, (ts.getD j holeT).d]) = casesD xs ts := by
  refine List.ext_getElem? fun j => ?_
  have hl := casesD_len h
  by_cases hj : j < xs.length
  · rw [casesD_get hj h, List.getElem?_map, List.getElem?_range hj]; rfl
  · rw [List.getElem?_eq_none (by simp; omega), List.getElem?_eq_none (by omega)]
theorem zip_rows : ∀ {xs : List Str} {ts us : List Tm}, zipL (rowsD xs ts) (Tm.ds us) = (xs.zip (ts.zip us)).map fun p => .tup [.tup [.str p.1, p.2.1.d], p.2.2.d]
  | [], ts, us => by simp [rowsD, zipL]
  | x :: xs, [], us => by simp [rowsD, zipL, Tm.ds]
  | x :: xs, t :: ts, [] => by simp [zipL, Tm.ds]
  | x :: xs, t :: ts, u :: us => congrArg (D.tup [.tup [.str x, t.d], u.d] :: ·) (zip_rows (xs := xs) (ts := ts) (us := us))
theorem zip_rows2 : ∀ {xs : List Str} {ts us : List Tm}, xs.length ≤ ts.length → ts.length = us.length → ((xs.zip (ts.zip us)).map fun p => D.tup [.str p.1, p.2.2.d]) = rowsD xs us
  | [], ts, us, _, _ => by simp [rowsD]
  | x :: xs, [], us, h, _ => by simp at h
  | x :: xs, t :: ts, [], _, h => by simp at h
  | x :: xs, t :: ts, u :: us, h, h2 => congrArg (D.tup [.str x, u.d] :: ·) (zip_rows2 (xs := xs) (ts := ts) (us := us) (by simpa using h) (by simpa using h2))
theorem zip_cases : ∀ {xs : List (Str × List Str)} {ts us : List Tm}, zipL (casesD xs ts) (Tm.ds us) = (xs.zip (ts.zip us)).map fun p => .tup [.tup [.str p.1.1, nsD p.1.2, p.2.1.d], p.2.2.d]
  | [], ts, us => by simp [casesD, zipL]
  | x :: xs, [], us => by simp [casesD, zipL, Tm.ds]
  | x :: xs, t :: ts, [] => by simp [zipL, Tm.ds]
  | x :: xs, t :: ts, u :: us => congrArg (D.tup [.tup [.str x.1, nsD x.2, t.d], u.d] :: ·) (zip_cases (xs := xs) (ts := ts) (us := us))
theorem zip_cases2 : ∀ {xs : List (Str × List Str)} {ts us : List Tm}, xs.length ≤ ts.length → ts.length = us.length → ((xs.zip (ts.zip us)).map fun p => D.tup [.str p.1.1, nsD p.1.2, p.2.2.d]) = casesD xs us
  | [], ts, us, _, _ => by simp [casesD]
  | x :: xs, [], us, h, _ => by simp at h
  | x :: xs, t :: ts, [], _, h => by simp at h
  | x :: xs, t :: ts, u :: us, h, h2 => congrArg (D.tup [.str x.1, nsD x.2, u.d] :: ·) (zip_cases2 (xs := xs) (ts := ts) (us := us) (by simpa using h) (by simpa using h2))
/-- a let's data, by its rows and its last part -/
theorem lets_d' {xs : List Str} {ts : List Tm} (h : ts.length = xs.length + 1) : Tm.d (.mk (.lets xs) ts) = .tup [.str "let", .tup (rowsD xs ts), (ts.getD xs.length holeT).d] := by
  have e : (Tm.ds ts).getD xs.length .non = (ts.getD xs.length holeT).d := by
    rw [List.getD_eq_getElem?_getD, ds_get (by omega)]
    rfl
  rw [← e, Tm.d]
  rfl
theorem ix_last {xs : List D} {d : D} {n : Nat} {b : Bool} (h : xs.length = n + 1) (h2 : xs[n]? = some d) : ixD (.lst b xs) (.int (-1)) = some d := by
  have e : ixN xs.length (-1) = some n := by
    unfold ixN
    rw [h]
    simp
    omega
  show (ixN xs.length (-1)).bind (fun j => xs[j]?) = some d
  rw [e]
  exact h2
section
variable {cR : Nat → List D → CR}
theorem rebuilt_ok (q : ∀ k ds, cR (k + 1) ds = calOf M_rebuilt 7 [true, true] ds) (k : Nat) {h : Hd} {ts0 ts : List Tm} (ht : (Tm.mk h ts0).ok = true) (hl : ts.length = ts0.length) : ∃ o, cR (k + 1) [Tm.d (.mk h ts0), .lst true (Tm.ds ts)] = .ok (Tm.d (.mk h ts)) [some (Tm.d (.mk h ts0)), some (.lst o (Tm.ds ts))] := by
  obtain ⟨hl0, hs⟩ := ok_mk ht
  have hb := ok_ar ht
  simp only [q, x_calOf]
  cases h with
  | fn x =>
    rcases ts0 with _ | ⟨t0, _ | ⟨_, _⟩⟩ <;> simp [Hd.ar] at hl0
    rcases ts with _ | ⟨t, _ | ⟨_, _⟩⟩ <;> simp at hl
    exact ⟨true, by simp (decide := true) [Tm.d, Tm.ds, Hd.d, M_rebuilt, begS, ixD, L2.atI, ixN]⟩
  | call x =>
    rcases ts0 with _ | ⟨t0, _ | ⟨_, _⟩⟩ <;> simp [Hd.ar] at hl0
    rcases ts with _ | ⟨t, _ | ⟨_, _⟩⟩ <;> simp at hl
    exact ⟨true, by simp (decide := true) [Tm.d, Tm.ds, Hd.d, M_rebuilt, begS, ixD, L2.atI, ixN]⟩
  | var x =>
    rcases ts0 with _ | ⟨t0, _⟩ <;> simp [Hd.ar] at hl0
    rcases ts with _ | ⟨t, _⟩ <;> simp at hl
    exact ⟨true, by simp (decide := true) [Tm.d, Tm.ds, Hd.d, M_rebuilt, begS, ixD, L2.atI, ixN]⟩
  | num x =>
    rcases ts0 with _ | ⟨t0, _⟩ <;> simp [Hd.ar] at hl0
    rcases ts with _ | ⟨t, _⟩ <;> simp at hl
    exact ⟨true, by simp (decide := true) [Tm.d, Tm.ds, Hd.d, M_rebuilt, begS, ixD, L2.atI, ixN]⟩
  | make x =>
    rcases ts0 with _ | ⟨t0, _⟩ <;> simp [Hd.ar] at hl0
    rcases ts with _ | ⟨t, _⟩ <;> simp at hl
    exact ⟨true, by simp (decide := true) [Tm.d, Tm.ds, Hd.d, M_rebuilt, begS, ixD, L2.atI, ixN]⟩
  | hole =>
    rcases ts0 with _ | ⟨t0, _⟩ <;> simp [Hd.ar] at hl0
    rcases ts with _ | ⟨t, _⟩ <;> simp at hl
    exact ⟨true, by simp (decide := true) [Tm.d, Tm.ds, Hd.d, M_rebuilt, begS, ixD, L2.atI, ixN]⟩
  | flat f =>
    refine ⟨true, ?_⟩
    cases f
    all_goals
      rcases ts0 with _ | ⟨t0, _ | ⟨t1, _ | ⟨t2, _ | ⟨t3, ts0⟩⟩⟩⟩ <;> simp [Hd.ar, Fk.ar] at hl0
      rcases ts with _ | ⟨u0, _ | ⟨u1, _ | ⟨u2, _ | ⟨u3, ts⟩⟩⟩⟩ <;> simp at hl
      simp (decide := true) [Tm.d, Tm.ds, Hd.d, M_rebuilt, begS, ixD, L2.atI, ixN, Fk.s]
  | lets xs =>
    have hl0 : ts0.length = xs.length + 1 := hl0
    have hb : xs.length + 1 ≤ 100 := hb
    refine ⟨false, ?_⟩
    rw [lets_d' hl0, lets_d' (ts := ts) (by omega)]
    have h1 := ix_last (b := false) (n := xs.length) (xs := Tm.ds ts) (by rw [ds_len]; omega) (ds_get (by omega))
    have hnl := rowsD_len (xs := xs) (ts := ts) (by omega)
    have hz := zip_rows (xs := xs) (ts := ts0) (us := ts)
    have hz2 := zip_rows2 (xs := xs) (ts := ts0) (us := ts) (by omega) (by omega)
    generalize hB : ts0.getD xs.length holeT = b0 at *
    generalize hC : ts.getD xs.length holeT = b1 at *
    generalize hR0 : rowsD xs ts0 = R0 at *
    generalize hDS : Tm.ds ts = DS at *
    have e0 := lcE_mapA (c := yesT) (f := M_rebuilt_e1) (tt := tgT' [6, 5]) (vs := [6, 5]) (gi := zipI (bin2 (nameE 0) (constE (.int 1)) ixK) (nameE 1)) (s := [some (.tup [.str "let", .tup R0, b0.d]), some (.lst true DS), some (.str "let"), none, none, none, none]) (s1 := [some (.tup [.str "let", .tup R0, b0.d]), some (.lst false DS), some (.str "let"), none, none, none, none]) (s0 := [some (.tup [.str "let", .tup R0, b0.d]), some (.lst false DS), some (.str "let"), none, none, none, none]) (xs.zip (ts0.zip ts)) (fun p => .tup [.tup [.str p.1, p.2.1.d], p.2.2.d]) (fun p => .tup [.str p.1, p.2.2.d]) (by rw [← hz]; simp [ixD, L2.atI, ixN]) rfl (fun p hp => by
      obtain ⟨x, t, u⟩ := p
      refine ⟨[some (.tup [.str "let", .tup R0, b0.d]), some (.lst false DS), some (.str "let"), none, none, some u.d, some (.tup [.str x, t.d])], rfl, fun ds' acc hl => ?_⟩
      simp [M_rebuilt_e1, hl, ixD, L2.atI, ixN]) (by rw [List.length_zip, List.length_zip]; omega)
    rw [hz2] at e0
    have hz4 : (rowsD xs ts).length ≤ 16000000 := by omega
    generalize rowsD xs ts = R1 at *
    simp (decide := true) [M_rebuilt, begS, ixD, L2.atI, ixN, e0, -x_zipI]
    simp [ixD, L2.atI, ixN] at h1
    simp (decide := true) [ixD, L2.atI, ixN, negD, h1]
  | case rows =>
    obtain _ | ⟨a0, ts0⟩ := ts0
    · cases hl0
    obtain _ | ⟨a1, ts⟩ := ts
    · simp at hl
    have hl0 : ts0.length + 1 = rows.length + 1 := hl0
    have hl : ts.length = ts0.length := by simpa using hl
    have hb : rows.length + 1 ≤ 100 := hb
    refine ⟨true, ?_⟩
    rw [case_d, case_d]
    have hz := zip_cases (xs := rows) (ts := ts0) (us := ts)
    have hz2 := zip_cases2 (xs := rows) (ts := ts0) (us := ts) (by omega) (by omega)
    have hnl := casesD_len (xs := rows) (ts := ts) (by omega)
    rw [show Tm.ds (a1 :: ts) = a1.d :: Tm.ds ts from rfl]
    have hct := cut_tail (a := a1.d) (xs := Tm.ds ts)
    generalize hR0 : casesD rows ts0 = R0 at *
    generalize hDS : Tm.ds ts = DS at *
    have e0 := lcE_mapA (c := yesT) (f := M_rebuilt_e0) (tt := tgT' [4, 5]) (vs := [4, 5]) (gi := zipI (bin2 (nameE 0) (constE (.int 2)) ixK) (slE (nameE 1) (some (constE (.int 1))) none)) (s := [some (.tup [.str "case", a0.d, .tup R0]), some (.lst true (a1.d :: DS)), some (.str "case"), none, none, none, none]) (s1 := [some (.tup [.str "case", a0.d, .tup R0]), some (.lst true (a1.d :: DS)), some (.str "case"), none, none, none, none]) (s0 := [some (.tup [.str "case", a0.d, .tup R0]), some (.lst true (a1.d :: DS)), some (.str "case"), none, none, none, none]) (rows.zip (ts0.zip ts)) (fun p => .tup [.tup [.str p.1.1, nsD p.1.2, p.2.1.d], p.2.2.d]) (fun p => .tup [.str p.1.1, nsD p.1.2, p.2.2.d]) (by rw [← hz]; simp [ixD, L2.atI, ixN, hct]) rfl (fun p hp => by
      obtain ⟨⟨c, ns⟩, t, u⟩ := p
      refine ⟨[some (.tup [.str "case", a0.d, .tup R0]), some (.lst true (a1.d :: DS)), some (.str "case"), none, some (.tup [.str c, nsD ns, t.d]), some u.d, none], rfl, fun ds' acc hl => ?_⟩
      simp [M_rebuilt_e0, hl, ixD, L2.atI, ixN, nsD]) (by rw [List.length_zip, List.length_zip]; omega)
    rw [hz2] at e0
    have hz4 : (casesD rows ts).length ≤ 16000000 := by omega
    generalize casesD rows ts = R1 at *
    simp (decide := true) [M_rebuilt, begS, ixD, L2.atI, ixN, e0, -x_zipI]
end
end NS
namespace NS
open PySem PySem.Spec PyProof.Rows L2
/-! ## 42. a part put in a place -/
theorem lc_parts0 {ts : List Tm} {bs : List (List Str)} (hl : ts.length = bs.length) : ((ts.zip bs).map fun p => p.1.d) = Tm.ds ts := by
  rw [zip_fst (f := Tm.d) hl, Tm.ds_eq]
section
variable {cR cP cQ : Nat → List D → CR}
theorem ixN_nat {n j : Nat} (h : j < n) : ixN n ((j : Nat) : Int) = some j := by
  unfold ixN
  simp only [Int.natCast_nonneg]
  first
    | (simp [h]; done)
    | (split <;> simp_all <;> omega)
theorem put_at_ok (qQ : ∀ k ds, cQ (k + 1) ds = calOf (M_put_at (cR k) (cQ k) (cP k)) 6 [true, true, true] ds) (qP : ∀ k ds, cP (k + 1) ds = calOf M_parts 7 [true] ds) (qR : ∀ k ds, cR (k + 1) ds = calOf M_rebuilt 7 [true, true] ds) (o : Tm) (ho : o.ok = true) :
    ∀ (k : Nat) (t : Tm) (p : List Nat), t.ok = true → VP t p → p.length ≤ k → cQ (k + 2) [t.d, pathD p, o.d] = .ok (PUT t p o).d [some t.d, some (pathD p), some o.d]
  | k, t, [], ht, hv, hk => by
    rw [qQ, x_calOf, PUT]
    simp [M_put_at, begS, pathD]
  | 0, t, i :: p, ht, hv, hk => by simp at hk
  | k + 1, .mk h ts, i :: p, ht, hv, hk => by
    obtain ⟨hl, hs⟩ := ok_mk ht
    have ha := ok_ar ht
    have hi := hv.1
    have ih := put_at_ok qQ qP qR o ho k (ts.getD i holeT) p (oks_get hs hi) hv.2 (by simpa using hk)
    have hP := parts_ok qP (k + 1) (.mk h ts) ht
    have hbl := Hd.bnd_len h
    have p1 : plainL (List.zipWith ptD ts h.bnd) = true := plain_parts
    rw [show Tm.parts (.mk h ts) = List.zipWith ptD ts h.bnd from rfl] at hP
    have hpd : pathD (i :: p) = .tup (.int (i : Nat) :: p.map fun (i : Nat) => .int i) := rfl
    have e0 := lcE_mapA (c := yesT) (f := M_put_at_e0 (cR (k + 2)) (cQ (k + 2)) (cP (k + 2))) (tt := tgT' [4, 5]) (vs := [4, 5]) (gi := plI (seqI (callE (cP (k + 2)) [true] [(nameE 0)]))) (s := [some (Tm.d (.mk h ts)), some (pathD (i :: p)), some o.d, none, none, none]) (s1 := [some (Tm.d (.mk h ts)), some (pathD (i :: p)), some o.d, none, none, none]) (s0 := [some (Tm.d (.mk h ts)), some (pathD (i :: p)), some o.d, none, none, none]) (ts.zip h.bnd) (fun p => ptD p.1 p.2) (fun p => p.1.d) (by rw [← zip_ptD]; simp [hP, p1]) rfl (fun p hp => by
      obtain ⟨t, ns⟩ := p
      have hn : (nsD ns).own = false := rfl
      refine ⟨[some (Tm.d (.mk h ts)), some (pathD (i :: _)), some o.d, none, some t.d, some (nsD ns)], rfl, fun ds' acc hl => ?_⟩
      simp [M_put_at_e0, ptD, hl, hn]) (by rw [zip_len (by omega)]; omega)
    rw [lc_parts0 (by omega)] at e0
    have hx : ixD (.lst false (Tm.ds ts)) (.int ((i : Nat) : Int)) = some (ts.getD i holeT).d := x_atNat (ds_get hi)
    have hj : ixN (Tm.ds ts).length ((i : Nat) : Int) = some i := ixN_nat (by rw [ds_len]; exact hi)
    have hset := ds_set (ts := ts) (j := i) (t := PUT (ts.getD i holeT) p o)
    have hct := cut_tail (a := .int ((i : Nat) : Int)) (xs := p.map fun (i : Nat) => D.int i)
    obtain ⟨ob, hR⟩ := rebuilt_ok qR (k + 1) (h := h) (ts0 := ts) (ts := ts.set i (PUT (ts.getD i holeT) p o)) ht (by rw [List.length_set])
    rw [hset] at hR
    rw [PUT, qQ, x_calOf]
    rw [show pathD p = .tup (p.map fun (i : Nat) => .int i) from rfl] at ih
    simp only [hpd] at e0 ⊢
    have hix : ixD (.tup (.int ((i : Nat) : Int) :: p.map fun (i : Nat) => D.int i)) (.int 0) = some (.int ((i : Nat) : Int)) := x_atNat (i := 0) rfl
    have a1 := Tm.d_own (.mk h ts)
    have a2 := Tm.d_frz (.mk h ts)
    have a3 := Tm.d_own (.mk h (ts.set i (PUT (ts.getD i holeT) p o)))
    have a4 := Tm.d_frz (.mk h (ts.set i (PUT (ts.getD i holeT) p o)))
    generalize ts.getD i holeT = ti at *
    generalize PUT ti p o = pt at *
    generalize hPD : (p.map fun (i : Nat) => D.int i) = PD at *
    generalize Tm.ds ts = DS at *
    generalize Tm.d (.mk h ts) = td at *
    generalize Tm.d (.mk h (ts.set i pt)) = rd at *
    simp [M_put_at, begS, e0, hx, hj, hix, hct, ih, hR, a1, a2, a3, a4]
theorem upto0 (n : Nat) : upto 0 n = (List.range n).map fun (j : Nat) => D.int j := by
  unfold upto
  congr 1
  funext j
  rw [Int.zero_add]
/-- what the law does behind the parts -/
theorem lawput_tail {k : Nat} {h : Hd} {ts0 ts : List Tm} (ht : (Tm.mk h ts0).ok = true) (hl : ts.length = ts0.length) (ne : ts ≠ []) {pd od : D} (F : Sl → Fl) (hF : F = (seqS (setS 4 (bin2 (nameE 0) (constE (.int 0)) ixK))
  (seqS (ifS (cmpT .Eq (nameE 4) (constE (.str "fun"))) (retS (tupE (valsE [(constE (.str "fun")), (bin2 (nameE 0) (constE (.int 1)) ixK), (bin2 (nameE 3) (constE (.int 0)) ixK)]))) nxS)
  (seqS (ifS (cmpT .Eq (nameE 4) (constE (.str "call"))) (retS (tupE (valsE [(constE (.str "call")), (bin2 (nameE 3) (constE (.int 0)) ixK), (bin2 (nameE 0) (constE (.int 2)) ixK)]))) nxS)
  (seqS (ifS (cmpT .Eq (nameE 4) (constE (.str "let"))) (seqS (setS 5 (lcE (rng1 (bltE (BI.op .len) [(bin2 (nameE 0) (constE (.int 1)) ixK)])) (tgN 7) [7] yesT (M_law_put_e1 (cQ k) (cP k))))
  (retS (tupE (valsE [(constE (.str "let")), (bltE (BI.op .tuple) [(nameE 5)]), (bin2 (nameE 3) (bin2 (bltE (BI.op .len) [(nameE 3)]) (constE (.int 1)) (op2K (binD .Sub))) ixK)])))) nxS)
  (seqS (ifS (cmpT .Eq (nameE 4) (constE (.str "case"))) (seqS (setS 5 (lcE (rng1 (bltE (BI.op .len) [(bin2 (nameE 0) (constE (.int 2)) ixK)])) (tgN 7) [7] yesT (M_law_put_e0 (cQ k) (cP k))))
  (retS (tupE (valsE [(constE (.str "case")), (bin2 (nameE 3) (constE (.int 0)) ixK), (bltE (BI.op .tuple) [(nameE 5)])])))) nxS)
  (retS (bin2 (tupE (valsE [(nameE 4)])) (bltE (BI.op .tuple) [(nameE 3)]) (op2K (binD .Add)))))))))) :
    calK [true, true, true] (F [some (Tm.d (.mk h ts0)), some pd, some od, some (.lst true (Tm.ds ts)), none, none, none, none]) = .ok (Tm.d (.mk h ts)) [some (Tm.d (.mk h ts0)), some pd, some od] := by
  obtain ⟨hl0, hs⟩ := ok_mk ht
  have hb := ok_ar ht
  subst hF
  cases h with
  | fn x =>
    rcases ts0 with _ | ⟨t0, _ | ⟨_, _⟩⟩ <;> simp [Hd.ar] at hl0
    rcases ts with _ | ⟨t, _ | ⟨_, _⟩⟩ <;> simp at hl
    simp (decide := true) [Tm.d, Tm.ds, Hd.d, ixD, L2.atI, ixN]
  | call x =>
    rcases ts0 with _ | ⟨t0, _ | ⟨_, _⟩⟩ <;> simp [Hd.ar] at hl0
    rcases ts with _ | ⟨t, _ | ⟨_, _⟩⟩ <;> simp at hl
    simp (decide := true) [Tm.d, Tm.ds, Hd.d, ixD, L2.atI, ixN]
  | var x =>
    rcases ts0 with _ | ⟨t0, _⟩ <;> simp [Hd.ar] at hl0
    rcases ts with _ | ⟨t, _⟩ <;> simp at hl
    exact absurd rfl ne
  | num x =>
    rcases ts0 with _ | ⟨t0, _⟩ <;> simp [Hd.ar] at hl0
    rcases ts with _ | ⟨t, _⟩ <;> simp at hl
    exact absurd rfl ne
  | make x =>
    rcases ts0 with _ | ⟨t0, _⟩ <;> simp [Hd.ar] at hl0
    rcases ts with _ | ⟨t, _⟩ <;> simp at hl
    exact absurd rfl ne
  | hole =>
    rcases ts0 with _ | ⟨t0, _⟩ <;> simp [Hd.ar] at hl0
    rcases ts with _ | ⟨t, _⟩ <;> simp at hl
    exact absurd rfl ne
  | flat f =>
    cases f
    all_goals
      rcases ts0 with _ | ⟨t0, _ | ⟨t1, _ | ⟨t2, _ | ⟨t3, ts0⟩⟩⟩⟩ <;> simp [Hd.ar, Fk.ar] at hl0
      rcases ts with _ | ⟨u0, _ | ⟨u1, _ | ⟨u2, _ | ⟨u3, ts⟩⟩⟩⟩ <;> simp at hl
      simp (decide := true) [Tm.d, Tm.ds, Hd.d, ixD, L2.atI, ixN, Fk.s]
  | lets xs =>
    have hl0 : ts0.length = xs.length + 1 := hl0
    have hb : xs.length + 1 ≤ 100 := hb
    rw [lets_d' hl0, lets_d' (ts := ts) (by omega)]
    have hlast : ixD (.lst false (Tm.ds ts)) (.int ((xs.length : Nat) : Int)) = some (ts.getD xs.length holeT).d := x_atNat (ds_get (by omega))
    have hn0 := rowsD_len (xs := xs) (ts := ts0) (by omega)
    have hn1 := rowsD_len (xs := xs) (ts := ts) (by omega)
    have hds := ds_len ts
    have hrr := rows_range (xs := xs) (ts := ts) (by omega)
    have g0 : ∀ j, j < xs.length → ixD (.tup (rowsD xs ts0)) (.int ((j : Nat) : Int)) = some (.tup [.str (xs.getD j ""), (ts0.getD j holeT).d]) := fun j hj => x_atNat (rowsD_get hj (by omega))
    have g1 : ∀ j, j < xs.length → ixD (.lst false (Tm.ds ts)) (.int ((j : Nat) : Int)) = some (ts.getD j holeT).d := fun j hj => x_atNat (ds_get (by omega))
    have z1 : ((xs.length : Nat) : Int) ≤ 1000000000 := by omega
    have z2 : -1000000000 ≤ ((xs.length : Nat) : Int) := by omega
    generalize hB : ts0.getD xs.length holeT = b0 at *
    generalize hC : ts.getD xs.length holeT = b1 at *
    generalize hR0 : rowsD xs ts0 = R0 at *
    generalize hDS : Tm.ds ts = DS at *
    have hq : ixD (.tup [.str "let", .tup R0, b0.d]) (.int 1) = some (.tup R0) := rfl
    have e0 := lcE_mapA (c := yesT) (f := M_law_put_e1 (cQ k) (cP k)) (tt := tgN 7) (vs := [7]) (gi := rng1 (bltE (BI.op .len) [(bin2 (nameE 0) (constE (.int 1)) ixK)])) (s := [some (.tup [.str "let", .tup R0, b0.d]), some pd, some od, some (.lst true DS), some (.str "let"), none, none, none]) (s1 := [some (.tup [.str "let", .tup R0, b0.d]), some pd, some od, some (.lst true DS), some (.str "let"), none, none, none]) (s0 := [some (.tup [.str "let", .tup R0, b0.d]), some pd, some od, some (.lst true DS), some (.str "let"), none, none, none]) (List.range xs.length) (fun (j : Nat) => .int j) (fun (j : Nat) => .tup [.str (xs.getD j ""), (ts.getD j holeT).d]) (by rw [← upto0]; simp [hq, hn0, z1, z2]) rfl (fun j hj => by
      have hj := List.mem_range.mp hj
      have q0 := g0 j hj
      have q1 := g1 j hj
      have q2 : ixD (.tup [.str (xs.getD j ""), (ts0.getD j holeT).d]) (.int 0) = some (.str (xs.getD j "")) := rfl
      refine ⟨[some (.tup [.str "let", .tup R0, b0.d]), some pd, some od, some (.lst true DS), some (.str "let"), none, none, some (.int ((j : Nat) : Int))], rfl, fun ds' acc hl => ?_⟩
      generalize ts0.getD j holeT = tj0 at *
      generalize ts.getD j holeT = tj at *
      generalize xs.getD j "" = xj at *
      simp [M_law_put_e1, hl, hq, q0, q1, q2]) (by rw [List.length_range]; omega)
    rw [hrr] at e0
    have hz4 : (rowsD xs ts).length ≤ 16000000 := by omega
    generalize rowsD xs ts = R1 at *
    have hq0 : ixD (.tup [.str "let", .tup R0, b0.d]) (.int 0) = some (.str "let") := rfl
    have hx1 : ((DS.length : Nat) : Int) - 1 = ((xs.length : Nat) : Int) := by omega
    simp (decide := true) [hq0, e0, hx1, hlast]
  | case rows =>
    obtain _ | ⟨a0, ts0⟩ := ts0
    · cases hl0
    obtain _ | ⟨a1, ts⟩ := ts
    · simp at hl
    have hl0 : ts0.length + 1 = rows.length + 1 := hl0
    have hl : ts.length = ts0.length := by simpa using hl
    have hb : rows.length + 1 ≤ 100 := hb
    rw [case_d, case_d]
    have hn0 := casesD_len (xs := rows) (ts := ts0) (by omega)
    have hn1 := casesD_len (xs := rows) (ts := ts) (by omega)
    have hrr := cases_range (xs := rows) (ts := ts) (by omega)
    have g0 : ∀ j, j < rows.length → ixD (.tup (casesD rows ts0)) (.int ((j : Nat) : Int)) = some (.tup [.str (rows.getD j ("", [])).1, nsD (rows.getD j ("", [])).2, (ts0.getD j holeT).d]) := fun j hj => x_atNat (casesD_get hj (by omega))
    have g1 : ∀ j, j < rows.length → ixD (.lst false (Tm.ds (a1 :: ts))) (.int (((j + 1 : Nat) : Nat) : Int)) = some (ts.getD j holeT).d := fun j hj => x_atNat (by
      rw [show Tm.ds (a1 :: ts) = a1.d :: Tm.ds ts from rfl, List.getElem?_cons_succ]
      exact ds_get (by omega))
    have z1 : ((rows.length : Nat) : Int) ≤ 1000000000 := by omega
    have z2 : -1000000000 ≤ ((rows.length : Nat) : Int) := by omega
    have hfst : ixD (.lst false (Tm.ds (a1 :: ts))) (.int 0) = some a1.d := by rw [show Tm.ds (a1 :: ts) = a1.d :: Tm.ds ts from rfl]; exact x_atNat (i := 0) rfl
    generalize hR0 : casesD rows ts0 = R0 at *
    generalize hDS : Tm.ds (a1 :: ts) = DS at *
    have hq : ixD (.tup [.str "case", a0.d, .tup R0]) (.int 2) = some (.tup R0) := rfl
    have e0 := lcE_mapA (c := yesT) (f := M_law_put_e0 (cQ k) (cP k)) (tt := tgN 7) (vs := [7]) (gi := rng1 (bltE (BI.op .len) [(bin2 (nameE 0) (constE (.int 2)) ixK)])) (s := [some (.tup [.str "case", a0.d, .tup R0]), some pd, some od, some (.lst true DS), some (.str "case"), none, none, none]) (s1 := [some (.tup [.str "case", a0.d, .tup R0]), some pd, some od, some (.lst true DS), some (.str "case"), none, none, none]) (s0 := [some (.tup [.str "case", a0.d, .tup R0]), some pd, some od, some (.lst true DS), some (.str "case"), none, none, none]) (List.range rows.length) (fun (j : Nat) => .int j) (fun (j : Nat) => .tup [.str (rows.getD j ("", [])).1, nsD (rows.getD j ("", [])).2, (ts.getD j holeT).d]) (by rw [← upto0]; simp [hq, hn0, z1, z2]) rfl (fun j hj => by
      have hj := List.mem_range.mp hj
      have q0 := g0 j hj
      have q1 := g1 j hj
      have q2 : ixD (.tup [.str (rows.getD j ("", [])).1, nsD (rows.getD j ("", [])).2, (ts0.getD j holeT).d]) (.int 0) = some (.str (rows.getD j ("", [])).1) := rfl
      have q3 : ixD (.tup [.str (rows.getD j ("", [])).1, nsD (rows.getD j ("", [])).2, (ts0.getD j holeT).d]) (.int 1) = some (nsD (rows.getD j ("", [])).2) := rfl
      rw [Int.natCast_add, Int.natCast_one] at q1
      refine ⟨[some (.tup [.str "case", a0.d, .tup R0]), some pd, some od, some (.lst true DS), some (.str "case"), none, none, some (.int ((j : Nat) : Int))], rfl, fun ds' acc hl => ?_⟩
      generalize ts0.getD j holeT = tj0 at *
      generalize ts.getD j holeT = tj at *
      generalize rows.getD j ("", []) = xj at *
      have hno : (nsD xj.2).own = false := rfl
      have hnf : (nsD xj.2).frz = nsD xj.2 := rfl
      simp [M_law_put_e0, hl, hq, q0, q1, q2, q3, hno, hnf]) (by rw [List.length_range]; omega)
    rw [hrr] at e0
    have hz4 : (casesD rows ts).length ≤ 16000000 := by omega
    generalize casesD rows ts = R1 at *
    have hq0 : ixD (.tup [.str "case", a0.d, .tup R0]) (.int 0) = some (.str "case") := rfl
    simp (decide := true) [hq0, e0, hfst]
theorem lawput_ok (qQ : ∀ k ds, cQ (k + 1) ds = calOf (M_law_put (cQ k) (cP k)) 8 [true, true, true] ds) (qP : ∀ k ds, cP (k + 1) ds = calOf M_law_parts 5 [true] ds) (o : Tm) (ho : o.ok = true) :
    ∀ (k : Nat) (t : Tm) (p : List Nat), t.ok = true → VP t p → p.length ≤ k → cQ (k + 2) [t.d, pathD p, o.d] = .ok (PUT t p o).d [some t.d, some (pathD p), some o.d]
  | k, t, [], ht, hv, hk => by
    rw [qQ, x_calOf, PUT]
    simp [M_law_put, begS, pathD]
  | 0, t, i :: p, ht, hv, hk => by simp at hk
  | k + 1, .mk h ts, i :: p, ht, hv, hk => by
    obtain ⟨hl, hs⟩ := ok_mk ht
    have ha := ok_ar ht
    have hi := hv.1
    have ih := lawput_ok qQ qP o ho k (ts.getD i holeT) p (oks_get hs hi) hv.2 (by simpa using hk)
    have hP := lawparts_ok qP (k + 1) (.mk h ts) ht
    have hbl := Hd.bnd_len h
    have p1 : plainL (List.zipWith ptD ts h.bnd) = true := plain_parts
    rw [show Tm.parts (.mk h ts) = List.zipWith ptD ts h.bnd from rfl] at hP
    have hpd : pathD (i :: p) = .tup (.int (i : Nat) :: p.map fun (i : Nat) => .int i) := rfl
    have e0 := lcE_mapA (c := yesT) (f := M_law_put_e2 (cQ (k + 2)) (cP (k + 2))) (tt := tgN 6) (vs := [6]) (gi := plI (seqI (callE (cP (k + 2)) [true] [(nameE 0)]))) (s := [some (Tm.d (.mk h ts)), some (pathD (i :: p)), some o.d, none, none, none, none, none]) (s1 := [some (Tm.d (.mk h ts)), some (pathD (i :: p)), some o.d, none, none, none, none, none]) (s0 := [some (Tm.d (.mk h ts)), some (pathD (i :: p)), some o.d, none, none, none, none, none]) (ts.zip h.bnd) (fun p => ptD p.1 p.2) (fun p => p.1.d) (by rw [← zip_ptD]; simp [hP, p1]) rfl (fun p hp => by
      obtain ⟨t, ns⟩ := p
      refine ⟨[some (Tm.d (.mk h ts)), some (pathD (i :: _)), some o.d, none, none, none, some (ptD t ns), none], rfl, fun ds' acc hl => ?_⟩
      have hy : ixD (.tup [t.d, nsD ns]) (.int 0) = some t.d := rfl
      simp [M_law_put_e2, ptD, hl, hy]) (by rw [zip_len (by omega)]; omega)
    rw [lc_parts0 (by omega)] at e0
    have hx : ixD (.lst false (Tm.ds ts)) (.int ((i : Nat) : Int)) = some (ts.getD i holeT).d := x_atNat (ds_get hi)
    have hj : ixN (Tm.ds ts).length ((i : Nat) : Int) = some i := ixN_nat (by rw [ds_len]; exact hi)
    have hset := ds_set (ts := ts) (j := i) (t := PUT (ts.getD i holeT) p o)
    have hct := cut_tail (a := .int ((i : Nat) : Int)) (xs := p.map fun (i : Nat) => D.int i)
    have tl := lawput_tail (cQ := cQ) (cP := cP) (k := k + 2) (h := h) (ts0 := ts) (ts := ts.set i (PUT (ts.getD i holeT) p o)) (pd := pathD (i :: p)) (od := o.d) ht (by rw [List.length_set]) (by rintro z; have := congrArg List.length z; rw [List.length_set] at this; simp at this; simp [this] at hi) _ rfl
    rw [hset] at tl
    rw [PUT, qQ, x_calOf]
    rw [show pathD p = .tup (p.map fun (i : Nat) => .int i) from rfl] at ih
    simp only [hpd] at e0 tl ⊢
    have hix : ixD (.tup (.int ((i : Nat) : Int) :: p.map fun (i : Nat) => D.int i)) (.int 0) = some (.int ((i : Nat) : Int)) := x_atNat (i := 0) rfl
    have hne : ¬ ((((p.map fun (i : Nat) => D.int i).length : Nat) : Int) + 1 = 0) := by omega
    have a1 := Tm.d_own (.mk h ts)
    have a2 := Tm.d_frz (.mk h ts)
    generalize ts.getD i holeT = ti at *
    generalize PUT ti p o = pt at *
    generalize hPD : (p.map fun (i : Nat) => D.int i) = PD at *
    generalize Tm.ds ts = DS at *
    generalize Tm.d (.mk h ts) = td at *
    generalize Tm.d (.mk h (ts.set i pt)) = rd at *
    rw [← tl]
    clear tl
    simp only [M_law_put, begS]
    simp [e0, hx, hj, hix, hct, ih, a1, a2, hne]
end
end NS
namespace NS
open PySem PySem.Spec PyProof.Rows L2
/-! ## 43. terms as data: plain, not deep -/
theorem pds_of : ∀ {ds : List D}, (∀ d ∈ ds, d.pd = true) → D.pds ds = true
  | [], _ => rfl
  | d :: ds, h => by
    show (d.pd && D.pds ds) = true
    rw [h d (by simp), pds_of fun d' h' => h d' (List.mem_cons_of_mem _ h')]
    rfl
theorem tup_pd {xs : List D} (h1 : xs.length ≤ 16000000) (h2 : ∀ d ∈ xs, d.pd = true) : (D.tup xs).pd = true := by
  show (Nat.ble xs.length 16000000 && D.pds xs) = true
  rw [Nat.ble_eq.mpr h1, pds_of h2]
  rfl
theorem lst_pd {xs : List D} (h1 : xs.length ≤ 16000000) (h2 : ∀ d ∈ xs, d.pd = true) : (D.lst false xs).pd = true := by
  show (!false && (Nat.ble xs.length 16000000 && D.pds xs)) = true
  rw [Nat.ble_eq.mpr h1, pds_of h2]
  rfl
theorem strs_pd {xs : List Str} : ∀ d ∈ xs.map D.str, d.pd = true := fun d hd => by
  obtain ⟨x, _, rfl⟩ := List.mem_map.mp hd
  rfl
theorem deps_le {n : Nat} : ∀ {ds : List D}, (∀ d ∈ ds, d.dep ≤ n) → D.deps ds ≤ n
  | [], _ => Nat.zero_le _
  | d :: ds, h => by
    rw [D.deps]
    exact Nat.max_le.mpr ⟨h d (by simp), deps_le fun d' h' => h d' (List.mem_cons_of_mem _ h')⟩
theorem strs_dep {xs : List Str} : D.deps (xs.map D.str) ≤ 1 := deps_le fun d hd => by
  obtain ⟨x, _, rfl⟩ := List.mem_map.mp hd
  exact Nat.le_refl _
theorem nsD_pd {xs : List Str} (h : xs.length ≤ 16000000) : (nsD xs).pd = true := tup_pd (by rw [List.length_map]; exact h) strs_pd
theorem nsD_dep {xs : List Str} : (nsD xs).dep ≤ 2 := by
  have := strs_dep (xs := xs)
  show D.deps (xs.map .str) + 1 ≤ 2
  omega
theorem mem_rowsD2 : ∀ {xs : List Str} {ts : List Tm} {d : D}, d ∈ rowsD xs ts → ∃ x t, t ∈ ts ∧ d = .tup [.str x, Tm.d t]
  | [], ts, d, h => by simp [rowsD] at h
  | x :: xs, [], d, h => by simp [rowsD, Tm.ds] at h
  | x :: xs, t :: ts, d, h => by
    have h : d ∈ D.tup [.str x, t.d] :: rowsD xs ts := h
    rcases List.mem_cons.mp h with rfl | h
    · exact ⟨x, t, by simp, rfl⟩
    · obtain ⟨y, u, h1, h2⟩ := mem_rowsD2 h
      exact ⟨y, u, List.mem_cons_of_mem _ h1, h2⟩
theorem mem_casesD2 : ∀ {xs : List (Str × List Str)} {ts : List Tm} {d : D}, d ∈ casesD xs ts → ∃ r t, r ∈ xs ∧ t ∈ ts ∧ d = .tup [.str r.1, nsD r.2, Tm.d t]
  | [], ts, d, h => by simp [casesD] at h
  | x :: xs, [], d, h => by simp [casesD, Tm.ds] at h
  | x :: xs, t :: ts, d, h => by
    have h : d ∈ D.tup [.str x.1, nsD x.2, t.d] :: casesD xs ts := h
    rcases List.mem_cons.mp h with rfl | h
    · exact ⟨x, t, by simp, by simp, rfl⟩
    · obtain ⟨y, u, h0, h1, h2⟩ := mem_casesD2 h
      exact ⟨y, u, List.mem_cons_of_mem _ h0, List.mem_cons_of_mem _ h1, h2⟩
theorem ht1 (t : Tm) : 1 ≤ t.ht := by
  obtain ⟨h, ts⟩ := t
  rw [Tm.ht]; omega
def Hd.wt : Hd → Nat
  | .var _ => 2 | .num _ => 2 | .hole => 2 | .make _ _ => 3 | .fn _ => 1 | .call _ => 1 | .lets _ => 3 | .case _ => 3 | .flat _ => 1
mutual
/-- how deep the data may be -/
def Tm.wd : Tm → Nat
  | .mk h ts => max 2 (h.wt + Tm.wds ts)
def Tm.wds : List Tm → Nat
  | [] => 0
  | t :: ts => max t.wd (Tm.wds ts)
end
theorem wd2 (t : Tm) : 2 ≤ t.wd := by
  obtain ⟨h, ts⟩ := t
  rw [Tm.wd]; omega
theorem wd_pos : ∀ (ts : List Tm) (t : Tm), t ∈ ts → t.wd ≤ Tm.wds ts
  | [], t, h => by cases h
  | a :: ts, t, h => by
    rw [Tm.wds]
    rcases List.mem_cons.mp h with rfl | h
    · omega
    · have := wd_pos ts t h
      omega
theorem wds_le {n : Nat} : ∀ {ts : List Tm}, (∀ t ∈ ts, t.wd ≤ n) → Tm.wds ts ≤ n
  | [], _ => Nat.zero_le _
  | t :: ts, h => by
    rw [Tm.wds]
    exact Nat.max_le.mpr ⟨h t (by simp), wds_le fun t' h' => h t' (List.mem_cons_of_mem _ h')⟩
theorem wd_ht : ∀ (n : Nat) (t : Tm), t.ht ≤ n → t.wd ≤ 3 * t.ht
  | 0, .mk h ts, hn => by rw [Tm.ht] at hn; omega
  | n + 1, .mk h ts, hn => by
    rw [Tm.ht] at hn
    have h1 : Tm.wds ts ≤ 3 * Tm.hts ts := wds_le fun t hm => by
      have h2 := ht_pos ts t hm
      have := wd_ht n t (by omega)
      omega
    have h2 : h.wt ≤ 3 := by cases h <;> simp [Hd.wt]
    rw [Tm.wd, Tm.ht]
    omega
theorem getD_wd {ts : List Tm} {i : Nat} (h : i < ts.length) : (ts.getD i holeT).wd ≤ Tm.wds ts := by
  have hm : ts.getD i holeT ∈ ts := by simp [h]
  exact wd_pos ts _ hm
theorem PAt_wd : ∀ {p : List Int} {t t' : Tm}, PAt t p = some t' → t'.wd ≤ t.wd
  | [], t, t', e => by rw [PAt] at e; cases e; exact Nat.le_refl _
  | i :: p, .mk h ts, t', e => by
    rw [PAt] at e
    split at e
    · rename_i hi
      have h1 := PAt_wd e
      have h2 := getD_wd (ts := ts) (i := i.toNat) (by omega)
      rw [Tm.wd]
      omega
    · cases e
theorem wds_set : ∀ {ts : List Tm} {i : Nat} {t : Tm} {n : Nat}, Tm.wds ts ≤ n → t.wd ≤ n → Tm.wds (ts.set i t) ≤ n
  | [], i, t, n, h, _ => h
  | a :: ts, 0, t, n, h, ht => by
    rw [Tm.wds] at h
    show Tm.wds (t :: ts) ≤ n
    rw [Tm.wds]; omega
  | a :: ts, i + 1, t, n, h, ht => by
    rw [Tm.wds] at h
    show Tm.wds (a :: ts.set i t) ≤ n
    have := wds_set (ts := ts) (i := i) (t := t) (n := n) (by omega) ht
    rw [Tm.wds]; omega
theorem PUT_wd : ∀ {p : List Nat} {t o : Tm}, VP t p → (PUT t p o).wd ≤ t.wd + o.wd
  | [], t, o, _ => by rw [PUT]; omega
  | i :: p, .mk h ts, o, hv => by
    have h1 := PUT_wd (p := p) (t := ts.getD i holeT) (o := o) hv.2
    have h2 := getD_wd (ts := ts) (i := i) hv.1
    rw [PUT, Tm.wd, Tm.wd]
    have := wds_set (ts := ts) (i := i) (t := PUT (ts.getD i holeT) p o) (n := Tm.wds ts + o.wd) (by omega) (by omega)
    omega
theorem tm_pd : ∀ (n : Nat) (t : Tm), t.ht ≤ n → t.ok = true → t.d.pd = true ∧ t.d.dep ≤ t.wd
  | 0, .mk h ts, hn, _ => by rw [Tm.ht] at hn; omega
  | n + 1, .mk h ts, hn, ht => by
    obtain ⟨hl, hs⟩ := ok_mk ht
    have hb := ok_ar ht
    have hf := ok_fine ht
    rw [Tm.ht] at hn
    have ih : ∀ t ∈ ts, t.d.pd = true ∧ t.d.dep ≤ Tm.wds ts ∧ 2 ≤ Tm.wds ts := fun t hm => by
      have h2 := ht_pos ts t hm
      have h3 := wd_pos ts t hm
      have h4 := wd2 t
      obtain ⟨a, b⟩ := tm_pd n t (by omega) (oks_mem hs hm)
      exact ⟨a, by omega, by omega⟩
    rw [Tm.wd]
    cases h with
    | var x =>
      cases ts <;> simp [Hd.ar] at hl
      simp [Tm.d, Tm.ds, Hd.d, D.pd, D.pds, D.dep, D.deps, Hd.wt]
      try omega
    | num x =>
      cases ts <;> simp [Hd.ar] at hl
      simp [Tm.d, Tm.ds, Hd.d, D.pd, D.pds, D.dep, D.deps, Hd.wt]
      try omega
    | hole =>
      cases ts <;> simp [Hd.ar] at hl
      simp [Tm.d, Tm.ds, Hd.d, D.pd, D.pds, D.dep, D.deps, Hd.wt]
      try omega
    | make c xs =>
      cases ts <;> simp [Hd.ar] at hl
      have ho : xs.length ≤ 100 := fine_own hf
      have h1 := nsD_pd (xs := xs) (by omega)
      have h2 := nsD_dep (xs := xs)
      simp [Tm.d, Tm.ds, Hd.d, D.pd, D.pds, D.dep, D.deps, Hd.wt, h1]
      try omega
    | fn x =>
      rcases ts with _ | ⟨t, _ | ⟨t2, ts⟩⟩ <;> simp [Hd.ar] at hl
      obtain ⟨a, b, b2⟩ := ih t (by simp)
      simp [Tm.d, Tm.ds, Hd.d, D.pd, D.pds, D.dep, D.deps, Hd.wt, a]
      omega
    | call x =>
      rcases ts with _ | ⟨t, _ | ⟨t2, ts⟩⟩ <;> simp [Hd.ar] at hl
      obtain ⟨a, b, b2⟩ := ih t (by simp)
      simp [Tm.d, Tm.ds, Hd.d, D.pd, D.pds, D.dep, D.deps, Hd.wt, a]
      omega
    | flat f =>
      rw [flat_d]
      have hl : ts.length = f.ar := hl
      have har : f.ar ≤ 3 := by cases f <;> decide
      constructor
      · refine tup_pd (by rw [List.length_cons, ds_len]; omega) fun d hd => ?_
        rcases List.mem_cons.mp hd with rfl | hd
        · rfl
        · obtain ⟨t, hm, rfl⟩ := mem_ds hd
          exact (ih t hm).1
      · have : D.deps (Tm.ds ts) ≤ Tm.wds ts := deps_le fun d hd => by
          obtain ⟨t, hm, rfl⟩ := mem_ds hd
          exact (ih t hm).2.1
        have e : (D.tup (.str f.s :: Tm.ds ts)).dep = max 1 (D.deps (Tm.ds ts)) + 1 := by simp [D.dep, D.deps]
        rw [e]
        have hne : ts ≠ [] := by
          rintro rfl
          cases f <;> cases hl
        obtain ⟨t0, ht0⟩ := List.exists_mem_of_ne_nil ts hne
        have := (ih t0 ht0).2.2
        simp only [Hd.wt]
        omega
    | lets xs =>
      have hl : ts.length = xs.length + 1 := hl
      have hb : xs.length + 1 ≤ 100 := hb
      rw [lets_d' hl]
      have hm : ts.getD xs.length holeT ∈ ts := by simp [hl]
      obtain ⟨a, b, b2⟩ := ih _ hm
      have hn1 := rowsD_len (xs := xs) (ts := ts) (by omega)
      have r1 : ∀ d ∈ rowsD xs ts, d.pd = true := fun d hd => by
        obtain ⟨x, t, hm, rfl⟩ := mem_rowsD2 hd
        have := (ih t hm).1
        simp [D.pd, D.pds, this]
      have r2 : D.deps (rowsD xs ts) ≤ Tm.wds ts + 1 := deps_le fun d hd => by
        obtain ⟨x, t, hm, rfl⟩ := mem_rowsD2 hd
        have := (ih t hm).2.1
        have := (ih t hm).2.2
        simp [D.dep, D.deps]
        omega
      have r3 : (D.tup (rowsD xs ts)).pd = true := tup_pd (by omega) r1
      generalize ts.getD xs.length holeT = tl at *
      constructor
      · refine tup_pd (by simp) fun d hd => ?_
        simp at hd
        rcases hd with rfl | rfl | rfl
        · rfl
        · exact r3
        · exact a
      · simp [D.dep, D.deps, Hd.wt]
        omega
    | case rows =>
      obtain _ | ⟨a0, ts⟩ := ts
      · cases hl
      have hl : ts.length + 1 = rows.length + 1 := hl
      have hb : rows.length + 1 ≤ 100 := hb
      rw [case_d]
      obtain ⟨a, b, b2⟩ := ih a0 (by simp)
      have hn1 := casesD_len (xs := rows) (ts := ts) (by omega)
      have hbd : ∀ r ∈ rows, r.2.length ≤ 100 := fun r hr => by
        obtain ⟨j, hj, rfl⟩ := List.getElem_of_mem hr
        have := fine_bnd hf (j + 1)
        simp [Hd.bnd, hj] at this
        exact this
      have r1 : ∀ d ∈ casesD rows ts, d.pd = true := fun d hd => by
        obtain ⟨r, t, hr, hm, rfl⟩ := mem_casesD2 hd
        have := (ih t (List.mem_cons_of_mem _ hm)).1
        have h1 := nsD_pd (xs := r.2) (by have := hbd r hr; omega)
        simp [D.pd, D.pds, this, h1]
      have r2 : D.deps (casesD rows ts) ≤ Tm.wds (a0 :: ts) + 1 := deps_le fun d hd => by
        obtain ⟨r, t, hr, hm, rfl⟩ := mem_casesD2 hd
        have := (ih t (List.mem_cons_of_mem _ hm)).2.1
        have := (ih t (List.mem_cons_of_mem _ hm)).2.2
        have h2 := nsD_dep (xs := r.2)
        have h3 := ht_pos _ t (List.mem_cons_of_mem a0 hm)
        have h4 := ht1 t
        simp [D.dep, D.deps]
        omega
      have r3 : (D.tup (casesD rows ts)).pd = true := tup_pd (by omega) r1
      constructor
      · refine tup_pd (by simp) fun d hd => ?_
        simp at hd
        rcases hd with rfl | rfl | rfl
        · rfl
        · exact a
        · exact r3
      · simp [D.dep, D.deps, Hd.wt]
        omega
theorem tmpd {t : Tm} (h : t.ok = true) : t.d.pd = true := (tm_pd _ t (Nat.le_refl _) h).1
theorem tmwd {t : Tm} (h : t.ok = true) : t.d.dep ≤ t.wd := (tm_pd _ t (Nat.le_refl _) h).2
theorem tmdep {t : Tm} (h : t.ok = true) : t.d.dep ≤ 3 * t.ht + 1 := by
  have := tmwd h
  have := wd_ht _ t (Nat.le_refl _)
  omega
theorem oD_wd {o : Option Tm} {n : Nat} (h : ∀ t, o = some t → t.ok = true ∧ t.wd ≤ n) : (oD o).dep ≤ n + 1 := by
  cases o with
  | none =>
    show 1 ≤ _
    omega
  | some t =>
    have := tmwd (h t rfl).1
    have := (h t rfl).2
    show t.d.dep ≤ _
    omega
theorem part_wd {t : Tm} {ns : List Str} (h : t.ok = true) : (ptD t ns).dep ≤ t.wd + 1 := by
  have h1 := tmwd h
  have h2 := nsD_dep (xs := ns)
  have h4 := wd2 t
  simp [ptD, D.dep, D.deps]
  omega
theorem oD_pd {o : Option Tm} (h : ∀ t, o = some t → t.ok = true) : (oD o).pd = true := by
  cases o with
  | none => rfl
  | some t => exact tmpd (h t rfl)
theorem oD_dep {o : Option Tm} {n : Nat} (h : ∀ t, o = some t → t.ok = true ∧ t.ht ≤ n) : (oD o).dep ≤ 3 * n + 1 := by
  cases o with
  | none =>
    show 1 ≤ _
    omega
  | some t =>
    have := tmdep (h t rfl).1
    have := (h t rfl).2
    show t.d.dep ≤ _
    omega
theorem path_pd {p : List Nat} (h : p.length ≤ 16000000) : (pathD p).pd = true := tup_pd (by rw [List.length_map]; exact h) fun d hd => by
  obtain ⟨x, _, rfl⟩ := List.mem_map.mp hd
  rfl
theorem path_dep {p : List Nat} : (pathD p).dep ≤ 2 := by
  have : D.deps (p.map fun (i : Nat) => D.int i) ≤ 1 := deps_le fun d hd => by
    obtain ⟨x, _, rfl⟩ := List.mem_map.mp hd
    exact Nat.le_refl _
  show D.deps (p.map fun (i : Nat) => D.int i) + 1 ≤ 2
  omega
theorem part_pd {t : Tm} {ns : List Str} (h : t.ok = true) (h2 : ns.length ≤ 16000000) : (ptD t ns).pd = true := tup_pd (by simp) fun d hd => by
  simp at hd
  rcases hd with rfl | rfl
  · exact tmpd h
  · exact nsD_pd h2
theorem part_dep {t : Tm} {ns : List Str} (h : t.ok = true) : (ptD t ns).dep ≤ 3 * t.ht + 2 := by
  have h1 := tmdep h
  have h2 := nsD_dep (xs := ns)
  have h4 := ht1 t
  simp [ptD, D.dep, D.deps]
  omega
/-- how many places, by the height -/
theorem sz_pow : ∀ (n : Nat) (t : Tm), t.ht ≤ n → t.gd → 4 * t.sz + 1 ≤ 5 ^ t.ht
  | 0, .mk h ts, hn, _ => by rw [Tm.ht] at hn; omega
  | n + 1, .mk h ts, hn, g => by
    rw [Tm.ht] at hn
    have g : h.gd ∧ ts.length = h.ar ∧ Tm.gds ts := g
    have har : h.ar ≤ 5 := by
      have g1 := g.1
      cases h with
      | lets xs => exact Nat.succ_le_succ g1.2.1
      | case rows => exact Nat.succ_le_succ g1.2.1
      | flat k => cases k <;> decide
      | _ => simp [Hd.ar]
    have hsum : ∀ (us : List Tm), (∀ t ∈ us, t ∈ ts) → Tm.gds us → 4 * Tm.szs us + us.length ≤ us.length * 5 ^ Tm.hts ts := by
      intro us
      induction us with
      | nil => intro _ _; simp [Tm.szs]
      | cons t us ih =>
        intro hm hg
        have hm1 := hm t (by simp)
        have h2 := ht_pos ts t hm1
        have h1 := sz_pow n t (by omega) hg.1
        have h3 := ih (fun u hu => hm u (List.mem_cons_of_mem _ hu)) hg.2
        have h4 : 5 ^ t.ht ≤ 5 ^ Tm.hts ts := Nat.pow_le_pow_right (by decide) h2
        rw [Tm.szs, List.length_cons, Nat.add_mul us.length 1]
        generalize 5 ^ Tm.hts ts = P at *
        generalize 5 ^ t.ht = Q at *
        omega
    have h5 := hsum ts (fun _ h => h) g.2.2
    have h6 : ts.length * 5 ^ Tm.hts ts + 5 ≤ 5 * 5 ^ Tm.hts ts + ts.length := by
      have hp : 1 ≤ 5 ^ Tm.hts ts := Nat.one_le_pow _ _ (by decide)
      have hl : ts.length ≤ 5 := by omega
      generalize 5 ^ Tm.hts ts = P at *
      obtain ⟨P', rfl⟩ : ∃ P', P = P' + 1 := ⟨P - 1, by omega⟩
      have : ts.length * P' ≤ 5 * P' := Nat.mul_le_mul_right _ hl
      rw [Nat.mul_add, Nat.mul_add]
      omega
    rw [Tm.sz, Tm.ht, Nat.pow_succ]
    omega
/-- the longest place -/
theorem PL_long : ∀ (n : Nat) (t : Tm), t.ht ≤ n → ∃ p ∈ PL t, p.length + 1 = t.ht
  | 0, .mk h ts, hn => by rw [Tm.ht] at hn; omega
  | n + 1, .mk h ts, hn => by
    rw [Tm.ht] at hn
    have key : ∀ (us : List Tm) (i : Nat), (∀ t ∈ us, t ∈ ts) → us ≠ [] → ∃ p ∈ PLs i us, p.length = Tm.hts us := by
      intro us
      induction us with
      | nil => intro i _ h; exact absurd rfl h
      | cons t us ih =>
        intro i hm _
        have hm1 := hm t (by simp)
        have h2 := ht_pos ts t hm1
        obtain ⟨p, hp, e⟩ := PL_long n t (by omega)
        rcases Nat.le_total (Tm.hts us) t.ht with h | h
        · refine ⟨i :: p, ?_, ?_⟩
          · rw [PLs, List.mem_append]
            exact .inl (List.mem_map.mpr ⟨p, hp, rfl⟩)
          · rw [Tm.hts, List.length_cons]; omega
        · have hne : us ≠ [] := by
            rintro rfl
            rw [Tm.hts] at h
            omega
          obtain ⟨q, hq, e2⟩ := ih (i + 1) (fun u hu => hm u (List.mem_cons_of_mem _ hu)) hne
          refine ⟨q, ?_, ?_⟩
          · rw [PLs, List.mem_append]
            exact .inr hq
          · rw [Tm.hts]; omega
    by_cases hne : ts = []
    · subst hne
      exact ⟨[], by rw [PL]; simp, by rw [Tm.ht, Tm.hts]; rfl⟩
    · obtain ⟨p, hp, e⟩ := key ts 0 (fun _ h => h) hne
      exact ⟨p, by rw [PL]; exact List.mem_cons_of_mem _ hp, by rw [Tm.ht, e]⟩
theorem PL_lmax (t : Tm) : lmax ((PL t).map fun p => ((p.length : Nat) : Int)) = some (((t.ht : Nat) : Int) - 1) := by
  obtain ⟨p, hp, e⟩ := PL_long _ t (Nat.le_refl _)
  refine lmax_eq (List.mem_map.mpr ⟨p, hp, by omega⟩) fun x hx => ?_
  obtain ⟨q, hq, rfl⟩ := List.mem_map.mp hx
  have := PL_short t q hq
  omega
theorem cut_map {α : Type} {f : α → D} (xs : List α) (lo hi : Option Int) : ∃ ys : List α, cutD (xs.map f) lo hi = ys.map f ∧ ys.length ≤ xs.length := by
  refine ⟨(xs.drop (HT.sIx (xs.map f).length 0 lo)).take (HT.sIx (xs.map f).length (xs.map f).length hi - HT.sIx (xs.map f).length 0 lo), ?_, ?_⟩
  · unfold cutD
    rw [← List.map_drop, ← List.map_take]
  · rw [List.length_take, List.length_drop]
    omega
@[simp] theorem x_neg {n : Int} : negD (.int n) = some (.int (-n)) := rfl
@[simp] theorem x_pool_sto {i : Nat} {f : Sl → R EV} {e : EV} {s : Sl} {p : Pool} : sto2 i f e s (some (some p.d)) = (f s).bind (penK (sto3 i e)) := rfl
@[simp] theorem x_pool_bud {i : Nat} {s : Sl} {p : Pool} {v : Int} : sto5 i (.int v) s (some (.int 5)) (some (some p.d)) = .ok () (s.set i (some (Pool.d { p with bud := v }))) := rfl
end NS
set_option maxHeartbeats 0
namespace NS
open PySem PySem.Spec PyProof.Rows L2
def top (i : Nat) : Stmt := PySem.Challenge.pw_notslower_k03_places_and_parts.main.body.getD i (.Pass ⟨0, 0, 0, 0⟩)
def d0 : Df := ⟨"parts", top 2, ["term", "kind", "names", "name", "bound", "constructor", "body"], [true]⟩
def d1 : Df := ⟨"rebuilt", top 3, ["term", "found", "kind", "rows", "row", "part", "pair"], [true, true]⟩
def d2 : Df := ⟨"size", top 4, ["term", "part", "names"], [true]⟩
def d3 : Df := ⟨"depth", top 5, ["term", "part", "names"], [true]⟩
def d4 : Df := ⟨"part_at", top 6, ["term", "path", "index", "found"], [false, true]⟩
def d5 : Df := ⟨"put_at", top 7, ["term", "path", "other", "found", "part", "names"], [true, true, true]⟩
def d6 : Df := ⟨"places", top 8, ["term", "found", "index", "pair", "path"], [true]⟩
def d7 : Df := ⟨"_law_pool", top 10, ["_law_script", "_law_budget"], [true, true]⟩
def d8 : Df := ⟨"_law_draw", top 11, ["_law_pool_here", "_law_upper", "_law_cell", "_law_value"], [true, true]⟩
def d9 : Df := ⟨"_law_spend", top 12, ["_law_pool_here"], [true]⟩
def d10 : Df := ⟨"_law_few", top 13, ["_law_pool_here", "_law_most", "_law_few_here"], [true, true]⟩
def d11 : Df := ⟨"_law_number", top 14, ["_law_pool_here"], [true]⟩
def d12 : Df := ⟨"_law_same", top 15, ["_law_actual", "_law_due", "_law_k"], [true, true]⟩
def d13 : Df := ⟨"_law_name", top 16, ["_law_pool_here", "_law_name_here", "_law_k"], [true]⟩
def d14 : Df := ⟨"_law_unlike", top 17, ["_law_pool_here", "_law_count", "_law_names", "_law_k", "_law_name_here", "_law_other"], [true, true]⟩
def d15 : Df := ⟨"_law_made", top 18, ["_law_pool_here", "_law_name_here", "_law_k"], [true]⟩
def d16 : Df := ⟨"_law_any", top 19, ["_law_pool_here", "_law_deep", "_law_way", "_law_sign", "_law_rows", "_law_subject", "_law_k", "_law_names", "_law_made_here", "_law_name_here", "_law_row"], [true, true]⟩
def d17 : Df := ⟨"_law_parts", top 20, ["_law_term", "_law_kind", "_law_names", "_law_part_here", "_law_row"], [true]⟩
def d18 : Df := ⟨"_law_places", top 21, ["_law_term", "_law_found", "_law_own", "_law_k", "_law_path"], [true]⟩
def d19 : Df := ⟨"_law_part", top 22, ["_law_term", "_law_path", "_law_index", "_law_own"], [false, true]⟩
def d20 : Df := ⟨"_law_put", top 23, ["_law_term", "_law_path", "_law_other", "_law_own", "_law_kind", "_law_rows", "_law_pair", "_law_k"], [true, true, true]⟩
def d21 : Df := ⟨"law", top 24, ["_law_script", "_law_pool_here", "_law_term", "_law_found", "_law_turn", "_law_k", "_law_path", "_law_part_here", "_law_other", "_law_at", "_law_strange"], [true]⟩
def T : Pg := ⟨[d0, d1, d2, d3, d4, d5, d6, d7, d8, d9, d10, d11, d12, d13, d14, d15, d16, d17, d18, d19, d20, d21], [("SIGNS", .tup [.str "+", .str "-", .str "*", .str "/", .str "<", .str "="])]⟩
theorem ok0 : DfOk d0 := ⟨⟨rfl, rfl, rfl, by decide +kernel, rfl, by decide +kernel, by decide +kernel⟩, fun _ _ _ _ _ _ us hl => match us, hl with | [_], _ => rfl, rfl⟩
theorem ok1 : DfOk d1 := ⟨⟨rfl, rfl, rfl, by decide +kernel, rfl, by decide +kernel, by decide +kernel⟩, fun _ _ _ _ _ _ us hl => match us, hl with | [_, _], _ => rfl, rfl⟩
theorem ok2 : DfOk d2 := ⟨⟨rfl, rfl, rfl, by decide +kernel, rfl, by decide +kernel, by decide +kernel⟩, fun _ _ _ _ _ _ us hl => match us, hl with | [_], _ => rfl, rfl⟩
theorem ok3 : DfOk d3 := ⟨⟨rfl, rfl, rfl, by decide +kernel, rfl, by decide +kernel, by decide +kernel⟩, fun _ _ _ _ _ _ us hl => match us, hl with | [_], _ => rfl, rfl⟩
theorem ok4 : DfOk d4 := ⟨⟨rfl, rfl, rfl, by decide +kernel, rfl, by decide +kernel, by decide +kernel⟩, fun _ _ _ _ _ _ us hl => match us, hl with | [_, _], _ => rfl, rfl⟩
theorem ok5 : DfOk d5 := ⟨⟨rfl, rfl, rfl, by decide +kernel, rfl, by decide +kernel, by decide +kernel⟩, fun _ _ _ _ _ _ us hl => match us, hl with | [_, _, _], _ => rfl, rfl⟩
theorem ok6 : DfOk d6 := ⟨⟨rfl, rfl, rfl, by decide +kernel, rfl, by decide +kernel, by decide +kernel⟩, fun _ _ _ _ _ _ us hl => match us, hl with | [_], _ => rfl, rfl⟩
theorem ok7 : DfOk d7 := ⟨⟨rfl, rfl, rfl, by decide +kernel, rfl, by decide +kernel, by decide +kernel⟩, fun _ _ _ _ _ _ us hl => match us, hl with | [_, _], _ => rfl, rfl⟩
theorem ok8 : DfOk d8 := ⟨⟨rfl, rfl, rfl, by decide +kernel, rfl, by decide +kernel, by decide +kernel⟩, fun _ _ _ _ _ _ us hl => match us, hl with | [_, _], _ => rfl, rfl⟩
theorem ok9 : DfOk d9 := ⟨⟨rfl, rfl, rfl, by decide +kernel, rfl, by decide +kernel, by decide +kernel⟩, fun _ _ _ _ _ _ us hl => match us, hl with | [_], _ => rfl, rfl⟩
theorem ok10 : DfOk d10 := ⟨⟨rfl, rfl, rfl, by decide +kernel, rfl, by decide +kernel, by decide +kernel⟩, fun _ _ _ _ _ _ us hl => match us, hl with | [_, _], _ => rfl, rfl⟩
theorem ok11 : DfOk d11 := ⟨⟨rfl, rfl, rfl, by decide +kernel, rfl, by decide +kernel, by decide +kernel⟩, fun _ _ _ _ _ _ us hl => match us, hl with | [_], _ => rfl, rfl⟩
theorem ok12 : DfOk d12 := ⟨⟨rfl, rfl, rfl, by decide +kernel, rfl, by decide +kernel, by decide +kernel⟩, fun _ _ _ _ _ _ us hl => match us, hl with | [_, _], _ => rfl, rfl⟩
theorem ok13 : DfOk d13 := ⟨⟨rfl, rfl, rfl, by decide +kernel, rfl, by decide +kernel, by decide +kernel⟩, fun _ _ _ _ _ _ us hl => match us, hl with | [_], _ => rfl, rfl⟩
theorem ok14 : DfOk d14 := ⟨⟨rfl, rfl, rfl, by decide +kernel, rfl, by decide +kernel, by decide +kernel⟩, fun _ _ _ _ _ _ us hl => match us, hl with | [_, _], _ => rfl, rfl⟩
theorem ok15 : DfOk d15 := ⟨⟨rfl, rfl, rfl, by decide +kernel, rfl, by decide +kernel, by decide +kernel⟩, fun _ _ _ _ _ _ us hl => match us, hl with | [_], _ => rfl, rfl⟩
theorem ok16 : DfOk d16 := ⟨⟨rfl, rfl, rfl, by decide +kernel, rfl, by decide +kernel, by decide +kernel⟩, fun _ _ _ _ _ _ us hl => match us, hl with | [_, _], _ => rfl, rfl⟩
theorem ok17 : DfOk d17 := ⟨⟨rfl, rfl, rfl, by decide +kernel, rfl, by decide +kernel, by decide +kernel⟩, fun _ _ _ _ _ _ us hl => match us, hl with | [_], _ => rfl, rfl⟩
theorem ok18 : DfOk d18 := ⟨⟨rfl, rfl, rfl, by decide +kernel, rfl, by decide +kernel, by decide +kernel⟩, fun _ _ _ _ _ _ us hl => match us, hl with | [_], _ => rfl, rfl⟩
theorem ok19 : DfOk d19 := ⟨⟨rfl, rfl, rfl, by decide +kernel, rfl, by decide +kernel, by decide +kernel⟩, fun _ _ _ _ _ _ us hl => match us, hl with | [_, _], _ => rfl, rfl⟩
theorem ok20 : DfOk d20 := ⟨⟨rfl, rfl, rfl, by decide +kernel, rfl, by decide +kernel, by decide +kernel⟩, fun _ _ _ _ _ _ us hl => match us, hl with | [_, _, _], _ => rfl, rfl⟩
theorem ok21 : DfOk d21 := ⟨⟨rfl, rfl, rfl, by decide +kernel, rfl, by decide +kernel, by decide +kernel⟩, fun _ _ _ _ _ _ us hl => match us, hl with | [_], _ => rfl, rfl⟩
theorem df_ok : ∀ d ∈ T.defs, DfOk d := by
  intro d hd
  simp only [T, List.mem_cons, List.not_mem_nil, or_false] at hd
  rcases hd with rfl | rfl | rfl | rfl | rfl | rfl | rfl | rfl | rfl | rfl | rfl | rfl | rfl | rfl | rfl | rfl | rfl | rfl | rfl | rfl | rfl | rfl
  · exact ok0
  · exact ok1
  · exact ok2
  · exact ok3
  · exact ok4
  · exact ok5
  · exact ok6
  · exact ok7
  · exact ok8
  · exact ok9
  · exact ok10
  · exact ok11
  · exact ok12
  · exact ok13
  · exact ok14
  · exact ok15
  · exact ok16
  · exact ok17
  · exact ok18
  · exact ok19
  · exact ok20
  · exact ok21
def loose : List Str := (["SIGNS", "parts", "rebuilt", "size", "depth", "part_at", "put_at", "places", "_law_pool", "_law_draw", "_law_spend", "_law_few", "_law_number", "_law_same", "_law_name", "_law_unlike", "_law_made", "_law_any", "_law_parts", "_law_places", "_law_part", "_law_put"] : List Str)
abbrev Rw : PySem.W.OpenRow := PySem.W.OpenLaw.row PySem.Challenge.rw_notslower_k03_places_and_parts
abbrev hk : PySem.W.Hook := T.hook 4
def ob (s : PySem.W.SharedT) : He.AlD × Bool := T.look 4 (HandSHeadRun.getT s)
theorem ob_eq (s : PySem.W.SharedT) : ob s = hk.obs s.abs := Pg.look_eq (HandSHeadRun.getT_eq s)
theorem run (w : World) : HandSHeadRun.RunEq Rw (PySem.W.view Rw.prog [24]) hk ob 4000 loose w := by
  intro os
  kernel_rfl

theorem m0_eq (cal : Nat → List D → CR) : T.mn cal d0 = M_parts := by kernel_rfl
theorem q_parts (k : Nat) (ds : List D) : T.cal (k + 1) 0 ds = calOf (M_parts) 7 [true] ds := by
  show calOf (T.mn (T.cal k) d0) d0.N.length d0.pins ds = _
  rw [m0_eq]
  rfl
theorem m1_eq (cal : Nat → List D → CR) : T.mn cal d1 = M_rebuilt := by kernel_rfl
theorem q_rebuilt (k : Nat) (ds : List D) : T.cal (k + 1) 1 ds = calOf (M_rebuilt) 7 [true, true] ds := by
  show calOf (T.mn (T.cal k) d1) d1.N.length d1.pins ds = _
  rw [m1_eq]
  rfl
theorem m2_eq (cal : Nat → List D → CR) : T.mn cal d2 = M_size (cal 0) (cal 2) := by kernel_rfl
theorem q_size (k : Nat) (ds : List D) : T.cal (k + 1) 2 ds = calOf (M_size (T.cal k 0) (T.cal k 2)) 3 [true] ds := by
  show calOf (T.mn (T.cal k) d2) d2.N.length d2.pins ds = _
  rw [m2_eq]
  rfl
theorem m3_eq (cal : Nat → List D → CR) : T.mn cal d3 = M_depth (cal 0) (cal 3) := by kernel_rfl
theorem q_depth (k : Nat) (ds : List D) : T.cal (k + 1) 3 ds = calOf (M_depth (T.cal k 0) (T.cal k 3)) 3 [true] ds := by
  show calOf (T.mn (T.cal k) d3) d3.N.length d3.pins ds = _
  rw [m3_eq]
  rfl
theorem m4_eq (cal : Nat → List D → CR) : T.mn cal d4 = M_part_at (cal 0) := by kernel_rfl
theorem q_part_at (k : Nat) (ds : List D) : T.cal (k + 1) 4 ds = calOf (M_part_at (T.cal k 0)) 4 [false, true] ds := by
  show calOf (T.mn (T.cal k) d4) d4.N.length d4.pins ds = _
  rw [m4_eq]
  rfl
theorem m5_eq (cal : Nat → List D → CR) : T.mn cal d5 = M_put_at (cal 1) (cal 5) (cal 0) := by kernel_rfl
theorem q_put_at (k : Nat) (ds : List D) : T.cal (k + 1) 5 ds = calOf (M_put_at (T.cal k 1) (T.cal k 5) (T.cal k 0)) 6 [true, true, true] ds := by
  show calOf (T.mn (T.cal k) d5) d5.N.length d5.pins ds = _
  rw [m5_eq]
  rfl
theorem m6_eq (cal : Nat → List D → CR) : T.mn cal d6 = M_places (cal 0) (cal 6) := by kernel_rfl
theorem q_places (k : Nat) (ds : List D) : T.cal (k + 1) 6 ds = calOf (M_places (T.cal k 0) (T.cal k 6)) 5 [true] ds := by
  show calOf (T.mn (T.cal k) d6) d6.N.length d6.pins ds = _
  rw [m6_eq]
  rfl
theorem m7_eq (cal : Nat → List D → CR) : T.mn cal d7 = M_law_pool := by kernel_rfl
theorem q_law_pool (k : Nat) (ds : List D) : T.cal (k + 1) 7 ds = calOf (M_law_pool) 2 [true, true] ds := by
  show calOf (T.mn (T.cal k) d7) d7.N.length d7.pins ds = _
  rw [m7_eq]
  rfl
theorem m8_eq (cal : Nat → List D → CR) : T.mn cal d8 = M_law_draw := by kernel_rfl
theorem q_law_draw (k : Nat) (ds : List D) : T.cal (k + 1) 8 ds = calOf (M_law_draw) 4 [true, true] ds := by
  show calOf (T.mn (T.cal k) d8) d8.N.length d8.pins ds = _
  rw [m8_eq]
  rfl
theorem m9_eq (cal : Nat → List D → CR) : T.mn cal d9 = M_law_spend := by kernel_rfl
theorem q_law_spend (k : Nat) (ds : List D) : T.cal (k + 1) 9 ds = calOf (M_law_spend) 1 [true] ds := by
  show calOf (T.mn (T.cal k) d9) d9.N.length d9.pins ds = _
  rw [m9_eq]
  rfl
theorem m10_eq (cal : Nat → List D → CR) : T.mn cal d10 = M_law_few (cal 8) := by kernel_rfl
theorem q_law_few (k : Nat) (ds : List D) : T.cal (k + 1) 10 ds = calOf (M_law_few (T.cal k 8)) 3 [true, true] ds := by
  show calOf (T.mn (T.cal k) d10) d10.N.length d10.pins ds = _
  rw [m10_eq]
  rfl
theorem m11_eq (cal : Nat → List D → CR) : T.mn cal d11 = M_law_number (cal 8) := by kernel_rfl
theorem q_law_number (k : Nat) (ds : List D) : T.cal (k + 1) 11 ds = calOf (M_law_number (T.cal k 8)) 1 [true] ds := by
  show calOf (T.mn (T.cal k) d11) d11.N.length d11.pins ds = _
  rw [m11_eq]
  rfl
theorem m12_eq (cal : Nat → List D → CR) : T.mn cal d12 = M_law_same (cal 12) := by kernel_rfl
theorem q_law_same (k : Nat) (ds : List D) : T.cal (k + 1) 12 ds = calOf (M_law_same (T.cal k 12)) 3 [true, true] ds := by
  show calOf (T.mn (T.cal k) d12) d12.N.length d12.pins ds = _
  rw [m12_eq]
  rfl
theorem m13_eq (cal : Nat → List D → CR) : T.mn cal d13 = M_law_name (cal 8) := by kernel_rfl
theorem q_law_name (k : Nat) (ds : List D) : T.cal (k + 1) 13 ds = calOf (M_law_name (T.cal k 8)) 3 [true] ds := by
  show calOf (T.mn (T.cal k) d13) d13.N.length d13.pins ds = _
  rw [m13_eq]
  rfl
theorem m14_eq (cal : Nat → List D → CR) : T.mn cal d14 = M_law_unlike (cal 13) := by kernel_rfl
theorem q_law_unlike (k : Nat) (ds : List D) : T.cal (k + 1) 14 ds = calOf (M_law_unlike (T.cal k 13)) 6 [true, true] ds := by
  show calOf (T.mn (T.cal k) d14) d14.N.length d14.pins ds = _
  rw [m14_eq]
  rfl
theorem m15_eq (cal : Nat → List D → CR) : T.mn cal d15 = M_law_made (cal 10) (cal 8) := by kernel_rfl
theorem q_law_made (k : Nat) (ds : List D) : T.cal (k + 1) 15 ds = calOf (M_law_made (T.cal k 10) (T.cal k 8)) 3 [true] ds := by
  show calOf (T.mn (T.cal k) d15) d15.N.length d15.pins ds = _
  rw [m15_eq]
  rfl
theorem m16_eq (cal : Nat → List D → CR) : T.mn cal d16 = M_law_any (cal 16) (cal 8) (cal 15) (cal 14) (cal 13) (cal 9) (cal 11) := by kernel_rfl
theorem q_law_any (k : Nat) (ds : List D) : T.cal (k + 1) 16 ds = calOf (M_law_any (T.cal k 16) (T.cal k 8) (T.cal k 15) (T.cal k 14) (T.cal k 13) (T.cal k 9) (T.cal k 11)) 11 [true, true] ds := by
  show calOf (T.mn (T.cal k) d16) d16.N.length d16.pins ds = _
  rw [m16_eq]
  rfl
theorem m17_eq (cal : Nat → List D → CR) : T.mn cal d17 = M_law_parts := by kernel_rfl
theorem q_law_parts (k : Nat) (ds : List D) : T.cal (k + 1) 17 ds = calOf (M_law_parts) 5 [true] ds := by
  show calOf (T.mn (T.cal k) d17) d17.N.length d17.pins ds = _
  rw [m17_eq]
  rfl
theorem m18_eq (cal : Nat → List D → CR) : T.mn cal d18 = M_law_places (cal 18) (cal 17) := by kernel_rfl
theorem q_law_places (k : Nat) (ds : List D) : T.cal (k + 1) 18 ds = calOf (M_law_places (T.cal k 18) (T.cal k 17)) 5 [true] ds := by
  show calOf (T.mn (T.cal k) d18) d18.N.length d18.pins ds = _
  rw [m18_eq]
  rfl
theorem m19_eq (cal : Nat → List D → CR) : T.mn cal d19 = M_law_part (cal 17) := by kernel_rfl
theorem q_law_part (k : Nat) (ds : List D) : T.cal (k + 1) 19 ds = calOf (M_law_part (T.cal k 17)) 4 [false, true] ds := by
  show calOf (T.mn (T.cal k) d19) d19.N.length d19.pins ds = _
  rw [m19_eq]
  rfl
theorem m20_eq (cal : Nat → List D → CR) : T.mn cal d20 = M_law_put (cal 20) (cal 17) := by kernel_rfl
theorem q_law_put (k : Nat) (ds : List D) : T.cal (k + 1) 20 ds = calOf (M_law_put (T.cal k 20) (T.cal k 17)) 8 [true, true, true] ds := by
  show calOf (T.mn (T.cal k) d20) d20.N.length d20.pins ds = _
  rw [m20_eq]
  rfl
theorem m21_eq (cal : Nat → List D → CR) : T.mn cal d21 = M_law_k03 (cal 8) (cal 12) (cal 4) (cal 19) (cal 5) (cal 20) (cal 16) (cal 0) (cal 17) (cal 3) (cal 2) (cal 6) (cal 18) (cal 7) := by kernel_rfl
theorem q_law (k : Nat) (ds : List D) : T.cal (k + 1) 21 ds = calOf (M_law_k03 (T.cal k 8) (T.cal k 12) (T.cal k 4) (T.cal k 19) (T.cal k 5) (T.cal k 20) (T.cal k 16) (T.cal k 0) (T.cal k 17) (T.cal k 3) (T.cal k 2) (T.cal k 6) (T.cal k 18) (T.cal k 7)) 11 [true] ds := by
  show calOf (T.mn (T.cal k) d21) d21.N.length d21.pins ds = _
  rw [m21_eq]
  rfl
def KL : Nat := 230
theorem pool_eq (k : Nat) (ns : List Int) (b : Int) : T.cal (k + 1) 7 [.ro (ns.map .int), .int b] = .ok (Pool.d ⟨ns, 0, 0, 1, 0, b⟩) [some (.ro (ns.map .int)), some (.int b)] := by
  rw [q_law_pool, x_calOf]
  simp [M_law_pool, begS, Pool.d]
theorem fF (k : Nat) : AnyF (T.cal (k + 3) 8) (T.cal (k + 3) 15) (T.cal (k + 3) 14) (T.cal (k + 3) 13) (T.cal (k + 3) 9) (T.cal (k + 3) 11) :=
  anyF_of (cD := fun k => T.cal k 8) (cM := fun k => T.cal k 15) (cF := fun k => T.cal k 10) (cU := fun k => T.cal k 14) (cN := fun k => T.cal k 13) (cS := fun k => T.cal k 9) (cQ := fun k => T.cal k 11) q_law_draw q_law_made q_law_few q_law_unlike q_law_name q_law_spend q_law_number k
theorem fA (d k : Nat) : AnyA (T.cal (k + 4 + d) 16) d :=
  drawn_ok (cA := fun k => T.cal k 16) (cD := fun k => T.cal k 8) (cM := fun k => T.cal k 15) (cU := fun k => T.cal k 14) (cN := fun k => T.cal k 13) (cS := fun k => T.cal k 9) (cQ := fun k => T.cal k 11) q_law_any fF d k
theorem fA7 : AnyA (T.cal 229 16) 7 := fA 7 218
theorem fA3 : AnyA (T.cal 229 16) 3 := fA 3 222
structure Ctx (t : Tm) : Prop where
  ok : t.ok = true
  ht : t.ht ≤ 97
  wd : t.wd ≤ 111
  sz : t.sz ≤ 20000
section
variable {t : Tm} (C : Ctx t)
include C
theorem fPl : T.cal 229 6 [t.d] = .ok (.lst true ((PL t).map pathD)) [some t.d] :=
  places_ok (cP := fun k => T.cal k 0) (cZ := fun k => T.cal k 6) q_places q_parts 228 t C.ok (by have := C.sz; omega) (by have := C.ht; omega) (by decide)
theorem fLPl : T.cal 229 18 [t.d] = .ok (.lst true ((PL t).map pathD)) [some t.d] :=
  lawplaces_ok (cP := fun k => T.cal k 17) (cL := fun k => T.cal k 18) q_law_places q_law_parts 228 t C.ok (by have := C.sz; omega) (by have := C.ht; omega) (by decide)
theorem fSz : T.cal 229 2 [t.d] = .ok (.int ((t.sz : Nat) : Int)) [some t.d] :=
  size_ok (cP := fun k => T.cal k 0) (cZ := fun k => T.cal k 2) q_size q_parts 228 t C.ok (by have := C.ht; omega)
theorem fDp : T.cal 229 3 [t.d] = .ok (.int ((t.ht : Nat) : Int)) [some t.d] :=
  depth_ok (cP := fun k => T.cal k 0) (cZ := fun k => T.cal k 3) q_depth q_parts 228 t C.ok (by have := C.ht; omega)
theorem fPa (p : List Int) : T.cal 229 4 [t.d, ipD p] = .ok (oD (PAt t p)) [none, some (ipD p)] :=
  part_at_ok (cP := fun k => T.cal k 0) (cA := fun k => T.cal k 4) q_part_at (k := 228) (fun t h => parts_ok (cP := fun k => T.cal k 0) q_parts 227 t h) t p C.ok
theorem fLPa (p : List Int) : T.cal 229 19 [t.d, ipD p] = .ok (oD (PAt t p)) [none, some (ipD p)] :=
  lawpart_ok (cP := fun k => T.cal k 17) (cA := fun k => T.cal k 19) q_law_part (k := 228) (fun t h => lawparts_ok (cP := fun k => T.cal k 17) q_law_parts 227 t h) t p C.ok
theorem fP : T.cal 229 0 [t.d] = .ok (.lst true t.parts) [some t.d] := parts_ok (cP := fun k => T.cal k 0) q_parts 228 t C.ok
theorem fLP : T.cal 229 17 [t.d] = .ok (.lst true t.parts) [some t.d] := lawparts_ok (cP := fun k => T.cal k 17) q_law_parts 228 t C.ok
theorem fPut (o : Tm) (ho : o.ok = true) (p : List Nat) (hp : p ∈ PL t) : T.cal 229 5 [t.d, pathD p, o.d] = .ok (PUT t p o).d [some t.d, some (pathD p), some o.d] :=
  put_at_ok (cP := fun k => T.cal k 0) (cR := fun k => T.cal k 1) (cQ := fun k => T.cal k 5) q_put_at q_parts q_rebuilt o ho 227 t p C.ok (VP_PL t p hp) (by have := PL_short t p hp; have := C.ht; omega)
theorem fLPut (o : Tm) (ho : o.ok = true) (p : List Nat) (hp : p ∈ PL t) : T.cal 229 20 [t.d, pathD p, o.d] = .ok (PUT t p o).d [some t.d, some (pathD p), some o.d] :=
  lawput_ok (cP := fun k => T.cal k 17) (cQ := fun k => T.cal k 20) q_law_put q_law_parts o ho 227 t p C.ok (VP_PL t p hp) (by have := PL_short t p hp; have := C.ht; omega)
end
theorem fS (d : D) (h : d.pd = true) (h2 : d.dep ≤ 229) : T.cal 229 12 [d, d] = .ok (.bl true) [some d, some d] :=
  same_ok (cS := fun k => T.cal k 12) q_law_same 229 d h h2
theorem fSl (o1 o2 : Bool) (xs : List D) (h : xs.length ≤ 16000000) (h1 : ∀ d ∈ xs, d.pd = true) (h2 : ∀ d ∈ xs, d.dep ≤ 228) : T.cal 229 12 [.lst o1 xs, .lst o2 xs] = .ok (.bl true) [some (.lst o1 xs), some (.lst o2 xs)] :=
  same_lst (cS := fun k => T.cal k 12) q_law_same (k := 228) h h1 fun d hd => same_ok (cS := fun k => T.cal k 12) q_law_same 228 d (h1 d hd) (h2 d hd)
theorem fD (p : Pool) (n : Int) (h0 : 0 < n) (h1 : n < 1073741824) : T.cal 229 8 [p.d, .int n] = .ok (.int (p.val n)) [some (p.nxt n).d, some (.int n)] :=
  drawF (cD := fun k => T.cal k 8) q_law_draw 228 p n h0 h1
abbrev f0 := M_law_k03_f0 (T.cal 229 8) (T.cal 229 12) (T.cal 229 4) (T.cal 229 19) (T.cal 229 5) (T.cal 229 20) (T.cal 229 16) (T.cal 229 0) (T.cal 229 17) (T.cal 229 3) (T.cal 229 2) (T.cal 229 6) (T.cal 229 18) (T.cal 229 7)
abbrev f1 := M_law_k03_f1 (T.cal 229 8) (T.cal 229 12) (T.cal 229 4) (T.cal 229 19) (T.cal 229 5) (T.cal 229 20) (T.cal 229 16) (T.cal 229 0) (T.cal 229 17) (T.cal 229 3) (T.cal 229 2) (T.cal 229 6) (T.cal 229 18) (T.cal 229 7)
abbrev e2 := M_law_k03_e2 (T.cal 229 8) (T.cal 229 12) (T.cal 229 4) (T.cal 229 19) (T.cal 229 5) (T.cal 229 20) (T.cal 229 16) (T.cal 229 0) (T.cal 229 17) (T.cal 229 3) (T.cal 229 2) (T.cal 229 6) (T.cal 229 18) (T.cal 229 7)
abbrev f3 := M_law_k03_f3 (T.cal 229 8) (T.cal 229 12) (T.cal 229 4) (T.cal 229 19) (T.cal 229 5) (T.cal 229 20) (T.cal 229 16) (T.cal 229 0) (T.cal 229 17) (T.cal 229 3) (T.cal 229 2) (T.cal 229 6) (T.cal 229 18) (T.cal 229 7)
/-- strange places -/
theorem loop0 {t : Tm} (C : Ctx t) {o0 o1 o3 o4 o5 o6 o7 o8 o9 : Option D} : ∀ {ps : List (List Int)} {o10 : Option D}, ∃ p10, forL (stepS (tgN 10) f0) (ps.map ipD) [o0, o1, some t.d, o3, o4, o5, o6, o7, o8, o9, o10] = .nx [o0, o1, some t.d, o3, o4, o5, o6, o7, o8, o9, p10]
  | [], o10 => ⟨o10, rfl⟩
  | p :: ps, o10 => by
    have h1 := fPa C p
    have h2 := fLPa C p
    have hok : ∀ t', PAt t p = some t' → t'.ok = true := fun t' e => PAt_ok C.ok e
    have h3 := fS (oD (PAt t p)) (oD_pd hok) (by have := oD_wd (o := PAt t p) (n := 111) (fun t' e => ⟨hok t' e, by have := PAt_wd e; have := C.wd; omega⟩); omega)
    have o1' := pd_own (oD_pd hok)
    have o2' := pd_frz (oD_pd hok)
    have hio : (ipD p).own = false := rfl
    have hif : (ipD p).frz = ipD p := rfl
    generalize oD (PAt t p) = d at *
    have hs : stepS (tgN 10) f0 (ipD p) [o0, o1, some t.d, o3, o4, o5, o6, o7, o8, o9, o10] = .nx [o0, o1, some t.d, o3, o4, o5, o6, o7, o8, o9, some (ipD p)] := by
      simp [f0, M_law_k03_f0, h1, h2, h3, o1', o2', hio, hif]
    obtain ⟨q, e⟩ := loop0 C (o0 := o0) (o1 := o1) (o3 := o3) (o4 := o4) (o5 := o5) (o6 := o6) (o7 := o7) (o8 := o8) (o9 := o9) (ps := ps) (o10 := some (ipD p))
    exact ⟨q, by rw [List.map_cons, x_forL, hs, x_for1, e]⟩
theorem two_cases' (i : Int) (h : 0 ≤ i) (h2 : i < 2) : i = 0 ∨ i = 1 := by omega
/-- ticks and wastes above -/
theorem loop3 {o0 o3 o4 o6 o7 o8 o9 o10 : Option D} {n : Nat} {p : Pool} {t : Tm} (g : t.gd) (h1 : t.ht ≤ 7) (h1w : t.wd ≤ 21) (h2 : t.sz ≤ 19531) (hn : n ≤ 90) : ∃ (q : Pool) (t' : Tm) (o5 : Option D), forL (stepS (tgN 5) f3) (upto 0 n) [o0, some p.d, some t.d, o3, o4, none, o6, o7, o8, o9, o10] = .nx [o0, some q.d, some t'.d, o3, o4, o5, o6, o7, o8, o9, o10] ∧ Ctx t' := by
  obtain ⟨s', e, q, t', o5, rfl, g', a, aw, b⟩ := forL_fold (step := stepS (tgN 5) f3) (st := fun j (_ : Unit) s => ∃ (q : Pool) (t' : Tm) (o5 : Option D), s = [o0, some q.d, some t'.d, o3, o4, o5, o6, o7, o8, o9, o10] ∧ t'.gd ∧ t'.ht ≤ 7 + j ∧ t'.wd ≤ 21 + j ∧ t'.sz ≤ 19531 + j) (up := fun _ _ => ()) (ds := upto 0 n) (off := 0) (a := ()) (s := [o0, some p.d, some t.d, o3, o4, none, o6, o7, o8, o9, o10]) (fun j hj _ s ⟨q, t', o5, z, g', a, aw, b⟩ => by
    subst z
    have hd := fD q 2 (by decide) (by decide)
    have v0 := q.val_nn 2 (by decide) (by decide)
    have v1 := q.val_lt 2 (by decide) (by decide)
    have st : stepS (tgN 5) f3 (upto 0 n)[j] [o0, some q.d, some t'.d, o3, o4, o5, o6, o7, o8, o9, o10] = f3 [o0, some q.d, some t'.d, o3, o4, some (upto 0 n)[j], o6, o7, o8, o9, o10] := by simp
    have fin : ∀ f : Fk, f.ar = 1 → (Fl.nx [o0, some (q.nxt 2).d, some (.tup [.str f.s, t'.d]), o3, o4, some (upto 0 n)[j], o6, o7, o8, o9, o10]).on (fun s => ∃ (q : Pool) (t' : Tm) (o5 : Option D), s = [o0, some q.d, some t'.d, o3, o4, o5, o6, o7, o8, o9, o10] ∧ t'.gd ∧ t'.ht ≤ 7 + (0 + j + 1) ∧ t'.wd ≤ 21 + (0 + j + 1) ∧ t'.sz ≤ 19531 + (0 + j + 1)) := by
      intro f hf
      refine ⟨q.nxt 2, .mk (.flat f) [t'], _, by rw [flat_d]; rfl, ⟨trivial, hf.symm, g', trivial⟩, ?_, ?_, ?_⟩
      · rw [Tm.ht, Tm.hts, Tm.hts]; omega
      · rw [Tm.wd, Tm.wds, Tm.wds, Hd.wt]; omega
      · rw [Tm.sz, Tm.szs, Tm.szs]; omega
    rw [st]
    rcases two_cases' _ v0 v1 with e | e
    · have := fin .tick rfl
      simp only [Fk.s] at this
      have h2 : f3 [o0, some q.d, some t'.d, o3, o4, some (upto 0 n)[j], o6, o7, o8, o9, o10] = .nx [o0, some (q.nxt 2).d, some (.tup [.str "tick", t'.d]), o3, o4, some (upto 0 n)[j], o6, o7, o8, o9, o10] := by
        simp [f3, M_law_k03_f3, hd, e, ixD, L2.atI, ixN]
      rw [h2]
      exact this
    · have := fin .waste rfl
      simp only [Fk.s] at this
      have h2 : f3 [o0, some q.d, some t'.d, o3, o4, some (upto 0 n)[j], o6, o7, o8, o9, o10] = .nx [o0, some (q.nxt 2).d, some (.tup [.str "waste", t'.d]), o3, o4, some (upto 0 n)[j], o6, o7, o8, o9, o10] := by
        simp [f3, M_law_k03_f3, hd, e, ixD, L2.atI, ixN]
      rw [h2]
      exact this) ⟨p, t, none, rfl, g, by omega, by omega, by omega⟩
  have hlen : (upto 0 n).length = n := by
    unfold upto
    rw [List.length_map, List.length_range]
  exact ⟨q, t', o5, e, gd_ok t' g', by omega, by omega, by omega⟩
/-- three turns -/
def I1 (o0 : Option D) (td : D) (fd : D) (s : Sl) : Prop := ∃ (q : Pool) (p4 p5 p6 p7 p8 p9 p10 : Option D), s = [o0, some q.d, some td, some fd, p4, p5, p6, p7, p8, p9, p10]
theorem loop1 {t : Tm} (C : Ctx t) {o0 : Option D} {n : Nat} {p : Pool} {o4 o5 o6 o7 o8 o9 o10 : Option D} : ∃ (q : Pool) (p4 p5 p6 p7 p8 p9 p10 : Option D), forL (stepS (tgN 4) f1) (upto 0 n) [o0, some p.d, some t.d, some (.lst true ((PL t).map pathD)), o4, o5, o6, o7, o8, o9, o10] = .nx [o0, some q.d, some t.d, some (.lst true ((PL t).map pathD)), p4, p5, p6, p7, p8, p9, p10] := by
  obtain ⟨s', e, q, p4, p5, p6, p7, p8, p9, p10, rfl⟩ := forL_on (step := stepS (tgN 4) f1) (I := I1 o0 t.d (.lst true ((PL t).map pathD))) (ds := upto 0 n) (fun d hd s hs0 => by
    obtain ⟨j, hj, rfl⟩ := mem_upto hd
    obtain ⟨q, p4, p5, p6, p7, p8, p9, p10, rfl⟩ := hs0
    have hlen := PL_len t
    have hsz := C.sz
    have hht := C.ht
    have hpos : 0 < (PL t).length := by
      obtain ⟨h, ts⟩ := t
      rw [PL]; simp
    have n0 : 0 < (((PL t).length : Nat) : Int) := by omega
    have n1 : (((PL t).length : Nat) : Int) < 1073741824 := by omega
    have hd1 := fD q _ n0 n1
    -- the place
    obtain ⟨path, hpm, hpx⟩ : ∃ path ∈ PL t, ixD (.lst false ((PL t).map pathD)) (.int (q.val ((PL t).length : Nat))) = some (pathD path) := by
      have v0 := q.val_nn _ n0 n1
      have v1 := q.val_lt _ n0 n1
      obtain ⟨m, hm⟩ := Int.eq_ofNat_of_zero_le v0
      rw [hm] at v1 ⊢
      have hm2 : m < (PL t).length := by omega
      exact ⟨(PL t)[m], List.getElem_mem hm2, x_atNat (by rw [List.getElem?_map, List.getElem?_eq_getElem hm2]; rfl)⟩
    have hps := PL_short t path hpm
    obtain ⟨t', ht'⟩ := PAt_VP (VP_PL t path hpm)
    have hok' : t'.ok = true := PAt_ok C.ok ht'
    have hht' := PAt_ht ht'
    have C' : t'.ht ≤ 97 := by omega
    have hwd := C.wd
    have hwd' := PAt_wd ht'
    have h1 := fPa C (path.map fun (i : Nat) => (i : Int))
    have h2 := fLPa C (path.map fun (i : Nat) => (i : Int))
    rw [← pathD_ip, ht'] at h1 h2
    have hs1 := fS t'.d (tmpd hok') (by have := tmwd hok'; omega)
    have hp1 : T.cal 229 0 [t'.d] = .ok (.lst true t'.parts) [some t'.d] := parts_ok (cP := fun k => T.cal k 0) q_parts 228 t' hok'
    have hp2 : T.cal 229 17 [t'.d] = .ok (.lst true t'.parts) [some t'.d] := lawparts_ok (cP := fun k => T.cal k 17) q_law_parts 228 t' hok'
    have hs2 : ∀ o1 o2, T.cal 229 12 [.lst o1 t'.parts, .lst o2 t'.parts] = .ok (.bl true) [some (.lst o1 t'.parts), some (.lst o2 t'.parts)] := by
      intro o1 o2
      obtain ⟨h, ts⟩ := t'
      have ha := ok_ar hok'
      have hl := (ok_mk hok').1
      have hm : ∀ d ∈ Tm.parts (.mk h ts), ∃ u ns, u.ok = true ∧ u.wd ≤ 111 ∧ ns.length ≤ 16000000 ∧ d = ptD u ns := fun d hd => by
        rw [show Tm.parts (.mk h ts) = List.zipWith ptD ts h.bnd from rfl, zip_ptD] at hd
        obtain ⟨⟨u, ns⟩, hm, rfl⟩ := List.mem_map.mp hd
        obtain ⟨m1, m2⟩ := List.of_mem_zip hm
        refine ⟨u, ns, oks_mem (ok_mk hok').2 m1, ?_, ?_, rfl⟩
        · have := wd_pos ts u m1
          rw [Tm.wd] at hwd'
          omega
        · obtain ⟨j, hj, e⟩ := List.getElem_of_mem m2
          have := fine_bnd (ok_fine hok') j
          simp [hj, e] at this
          omega
      refine fSl o1 o2 _ ?_ (fun d hd => ?_) (fun d hd => ?_)
      · rw [show Tm.parts (.mk h ts) = List.zipWith ptD ts h.bnd from rfl, List.length_zipWith]
        omega
      · obtain ⟨u, ns, a, b, c, rfl⟩ := hm d hd
        exact part_pd a c
      · obtain ⟨u, ns, a, b, c, rfl⟩ := hm d hd
        have := part_wd (ns := ns) a
        omega
    -- another term
    obtain ⟨o, q3, hA, hT⟩ := fA3 { q.nxt ((PL t).length : Nat) with bud := 5 }
    have hok : o.ok = true := gd_ok o hT.gd
    have hoht : o.ht ≤ 3 := hT.ht
    have h3 := fPut C o hok path hpm
    have h4 := fLPut C o hok path hpm
    have hput := PUT_ok C.ok hok (VP_PL t path hpm)
    have hputh := PUT_wd (o := o) (VP_PL t path hpm)
    have howd := wd_ht _ o (Nat.le_refl _)
    have hs3 := fS (PUT t path o).d (tmpd hput) (by have := tmwd hput; omega)
    -- strange places
    have m0 : 0 < ((path.length : Nat) : Int) + 1 := by omega
    have m1 : ((path.length : Nat) : Int) + 1 < 1073741824 := by omega
    have hd2 := fD q3 _ m0 m1
    have hd3 := fD (q3.nxt (((path.length : Nat) : Int) + 1)) 7 (by decide) (by decide)
    generalize (q3.nxt (((path.length : Nat) : Int) + 1)).val 7 = v7 at *
    generalize q3.val (((path.length : Nat) : Int) + 1) = va at *
    obtain ⟨c1, e1, l1⟩ := cut_map (f := D.int) (path.map fun (i : Nat) => (i : Int)) none (some va)
    obtain ⟨c2, e2, l2⟩ := cut_map (f := D.int) (path.map fun (i : Nat) => (i : Int)) (some va) none
    obtain ⟨c3, e3, l3⟩ := cut_map (f := D.int) (path.map fun (i : Nat) => (i : Int)) (some (va + 1)) none
    rw [List.length_map] at l1 l2 l3
    obtain ⟨p10', l0⟩ := loop0 C (o0 := o0) (o1 := some ((q3.nxt (((path.length : Nat) : Int) + 1)).nxt 7).d) (o3 := some (.lst true ((PL t).map pathD))) (o4 := some (.int (0 + j))) (o5 := p5) (o6 := some (pathD path)) (o7 := some t'.d) (o8 := some o.d) (o9 := some (.int va)) (ps := [(path.map fun (i : Nat) => (i : Int)) ++ [v7 - 1], (c1 ++ [-1]) ++ c2, (c1 ++ [-1]) ++ c3]) (o10 := p10)
    have st : stepS (tgN 4) f1 (.int (0 + j)) [o0, some q.d, some t.d, some (.lst true ((PL t).map pathD)), p4, p5, p6, p7, p8, p9, p10] = f1 [o0, some q.d, some t.d, some (.lst true ((PL t).map pathD)), some (.int (0 + j)), p5, p6, p7, p8, p9, p10] := by simp
    rw [st]
    have hpd : pathD path = .tup ((path.map fun (i : Nat) => (i : Int)).map .int) := pathD_ip path
    have hpl : (path.map fun (i : Nat) => (i : Int)).length = path.length := List.length_map _
    have hbud : ∀ p : Pool, (Pool.d { p with bud := 5 }) = .lst true [.lst false (p.cells.map .int), .int p.i, .int p.big, .int p.seed, .int p.left, .int 5] := fun _ => rfl
    have hpo : (pathD path).own = false := rfl
    have hpf : (pathD path).frz = pathD path := rfl
    simp only [List.map_cons, List.map_nil, ipD, hpd] at *
    generalize (path.map fun (i : Nat) => (i : Int)) = ip at *
    generalize hPLD : (PL t).map pathD = PLD at *
    have hPLl : PLD.length = (PL t).length := by rw [← hPLD, List.length_map]
    have z1 : path.length + 1 ≤ 16000000 := by omega
    have z2 : c1.length + 1 ≤ 16000000 := by omega
    have z3 : c1.length + 1 + c2.length ≤ 16000000 := by omega
    have z4 : c1.length + 1 + c3.length ≤ 16000000 := by omega
    have hoD : oD (some t') = t'.d := rfl
    have b1 : ∀ xs : List Int, plainL (xs.map D.int) = true := fun xs => plain_ints
    simp [hoD] at h1 h2
    have hA : T.cal 229 16 [Pool.d { q.nxt ((PL t).length : Nat) with bud := 5 }, .int 3] = .ok o.d [some q3.d, some (.int 3)] := hA
    simp only [f0] at l0
    simp [f1, M_law_k03_f1, hd1, hpx, hPLl, h1, h2, hs1, hp1, hp2, hs2, hA, h3, h4, hs3, hd2, hd3, e1, e2, e3, z1, z2, z3, z4, b1, hpl]
    simp at l0
    rw [l0]
    exact ⟨_, _, _, _, _, _, _, _, rfl⟩) (s := [o0, some p.d, some t.d, some (.lst true ((PL t).map pathD)), o4, o5, o6, o7, o8, o9, o10]) ⟨p, _, _, _, _, _, _, _, rfl⟩
  exact ⟨q, p4, p5, p6, p7, p8, p9, p10, e⟩
theorem holds (ns : List Int) (h : ns.length ≤ 63) : ∃ s, T.cal KL 21 [.ro (ns.map .int)] = .ok (.bl true) [s] := by
  show ∃ s, T.cal (229 + 1) 21 [.ro (ns.map .int)] = .ok (.bl true) [s]
  have hp : T.cal 229 7 [.ro (ns.map .int), .int 50] = .ok (Pool.d ⟨ns, 0, 0, 1, 0, 50⟩) [some (.ro (ns.map .int)), some (.int 50)] := pool_eq 228 ns 50
  obtain ⟨t0, q, hA, hT⟩ := fA7 ⟨ns, 0, 0, 1, 0, 50⟩
  have hA : T.cal 229 16 [Pool.d ⟨ns, 0, 0, 1, 0, 50⟩, .int 7] = .ok t0.d [some q.d, some (.int 7)] := hA
  have h7 : t0.ht ≤ 7 := hT.ht
  have hsz : t0.sz ≤ 19531 := by
    have h1 := sz_pow _ t0 (Nat.le_refl _) hT.gd
    have h2 : 5 ^ t0.ht ≤ 5 ^ 7 := Nat.pow_le_pow_right (by decide) h7
    have h3 : (5 : Nat) ^ 7 = 78125 := by decide
    omega
  have hd1 := fD q 4 (by decide) (by decide)
  -- the term, maybe below ticks
  have key : ∃ (q2 : Pool) (t : Tm) (o5 : Option D), Ctx t ∧ (ifS (cmpT .Eq (callE (T.cal 229 8) [true, true] [(nameE 1), (constE (.int 4))]) (constE (.int 0))) (forS (rng1 (callE (T.cal 229 8) [true, true] [(nameE 1), (constE (.int 91))])) (tgN 5) f3) nxS) [some (.ro (ns.map .int)), some q.d, some t0.d, none, none, none, none, none, none, none, none] = .nx [some (.ro (ns.map .int)), some q2.d, some t.d, none, none, o5, none, none, none, none, none] := by
    by_cases c : q.val 4 = 0
    · have hd2 := fD (q.nxt 4) 91 (by decide) (by decide)
      have v0 := (q.nxt 4).val_nn 91 (by decide) (by decide)
      have v1 := (q.nxt 4).val_lt 91 (by decide) (by decide)
      obtain ⟨q2, t, o5, e, C⟩ := loop3 (o0 := some (.ro (ns.map .int))) (o3 := none) (o4 := none) (o6 := none) (o7 := none) (o8 := none) (o9 := none) (o10 := none) (n := ((q.nxt 4).val 91).toNat) (p := (q.nxt 4).nxt 91) (t := t0) hT.gd h7 (by have := wd_ht _ t0 (Nat.le_refl _); omega) hsz (by omega)
      have z1 : (q.nxt 4).val 91 ≤ 1000000000 := by omega
      have z2 : -1000000000 ≤ (q.nxt 4).val 91 := by omega
      refine ⟨q2, t, o5, C, ?_⟩
      simp [hd1, c, hd2, z1, z2, e]
    · refine ⟨q.nxt 4, t0, none, ⟨gd_ok t0 hT.gd, by omega, by have := wd_ht _ t0 (Nat.le_refl _); omega, by omega⟩, ?_⟩
      simp [hd1, c]
  obtain ⟨q2, t, o5, C, e3⟩ := key
  have hht := C.ht
  have hszt := C.sz
  have hlen := PL_len t
  have h1 := fPl C
  have h2 := fLPl C
  have h3 := fSz C
  have h4 := fDp C
  have hs1 : ∀ o1 o2, T.cal 229 12 [.lst o1 ((PL t).map pathD), .lst o2 ((PL t).map pathD)] = .ok (.bl true) [some (.lst o1 ((PL t).map pathD)), some (.lst o2 ((PL t).map pathD))] := fun o1 o2 =>
    fSl o1 o2 _ (by rw [List.length_map]; omega) (fun d hd => by
      obtain ⟨p, hp, rfl⟩ := List.mem_map.mp hd
      have := PL_short t p hp
      exact path_pd (by omega)) fun d hd => by
      obtain ⟨p, hp, rfl⟩ := List.mem_map.mp hd
      have := path_dep (p := p)
      omega
  have hs2 := fS (.int ((t.sz : Nat) : Int)) rfl (by simp [D.dep])
  have hs3 := fS (.int ((t.ht : Nat) : Int)) rfl (by simp [D.dep])
  have wlk : ∀ (o4 o5 o7 o8 o9 o10 : Option D), lcO 3 (tgN 6) [6] yesT e2 [some (.ro (ns.map .int)), some q2.d, some t.d, some (.lst true ((PL t).map pathD)), o4, o5, none, o7, o8, o9, o10] = .ok (.val (.lst true (((PL t).map fun p => ((p.length : Nat) : Int)).map .int))) [some (.ro (ns.map .int)), some q2.d, some t.d, some (.lst true ((PL t).map pathD)), o4, o5, none, o7, o8, o9, o10] := by
    intro o4 o5 o7 o8 o9 o10
    have z := lcO_map (i := 3) (tt := tgN 6) (vs := [6]) (c := yesT) (f := e2) (s := [some (.ro (ns.map .int)), some q2.d, some t.d, some (.lst true ((PL t).map pathD)), o4, o5, none, o7, o8, o9, o10]) (s0 := [some (.ro (ns.map .int)), some q2.d, some t.d, none, o4, o5, none, o7, o8, o9, o10]) (xs := (PL t).map pathD) (g := fun d => match d with
      | .tup xs => .int ((xs.length : Nat) : Int)
      | _ => .non) rfl plain_paths rfl rfl rfl (fun d hd => by
      obtain ⟨p, _, rfl⟩ := List.mem_map.mp hd
      refine ⟨[some (.ro (ns.map .int)), some q2.d, some t.d, none, o4, o5, some (pathD p), o7, o8, o9, o10], rfl, fun ds' acc hl => ?_⟩
      simp [e2, M_law_k03_e2, hl, pathD]) (by rw [List.length_map]; omega)
    have e : ((PL t).map pathD).map (fun d => match d with
      | .tup xs => D.int ((xs.length : Nat) : Int)
      | _ => .non) = ((PL t).map fun p => ((p.length : Nat) : Int)).map .int := by
      rw [List.map_map, List.map_map]
      refine List.map_congr_left fun p _ => ?_
      simp [pathD]
    rw [e] at z
    exact z
  have hmax := x_max (b := false) (ns := (PL t).map fun p => ((p.length : Nat) : Int))
  rw [PL_lmax] at hmax
  obtain ⟨q3, p4, p5, p6, p7, p8, p9, p10, e1⟩ := loop1 C (o0 := some (.ro (ns.map .int))) (n := 3) (p := q2) (o4 := none) (o5 := o5) (o6 := none) (o7 := none) (o8 := none) (o9 := none) (o10 := none)
  have hpl : ((PL t).map pathD).length = t.sz := by rw [List.length_map]; exact hlen
  refine ⟨some (.ro (ns.map .int)), ?_⟩
  rw [q_law, x_calOf]
  simp only [f3, f1, e2] at e3 e1 wlk
  generalize ((PL t).map fun p => ((p.length : Nat) : Int)).map D.int = LD at *
  generalize (PL t).map pathD = PLD at *
  simp only [M_law_k03, begS, List.map_cons, List.map_nil, List.length_cons, List.length_nil, List.cons_append, List.nil_append, List.replicate]
  rw [x_seqS, x_setS]
  simp [hp, hA, -x_ifS, -x_forS]
  rw [e3]
  have hq : (1 : Int) + (((t.ht : Nat) : Int) - 1) = ((t.ht : Nat) : Int) := by omega
  simp [h2, h1, hs1, h3, hs2, hpl, h4, wlk, hmax, hq, hs3, e1]

end NS
open PySem PySem.W PySem.Calls PyProof.Rows

theorem PySem.Challenge.cw_notslower_k03_places_and_parts_holds : PySem.Challenge.rw_notslower_k03_places_and_parts.Holds := by
  w_on; o_law
  refine HandSHeadRun.head_any (r := OpenLaw.row PySem.Challenge.rw_notslower_k03_places_and_parts) (q := view (OpenLaw.row PySem.Challenge.rw_notslower_k03_places_and_parts).prog [24]) (H := NS.hk) (ob := NS.ob) (M := 4000) (loose := NS.loose) (d := HandSHeadRun.topDef (OpenLaw.row PySem.Challenge.rw_notslower_k03_places_and_parts).prog 24) (kwd := []) NS.ob_eq
    (by kernel_rfl) (fun s => by kernel_rfl) NS.run (by kernel_rfl) (by kernel_rfl) (by kernel_rfl) (by rfl) (by first | assumption | decide +kernel) (by decide +kernel) ⟨rfl, rfl, rfl, rfl, rfl, by decide +kernel⟩ ?hw ?hc
  case hw => w_witness2
  case hc =>
    refine NS.law_walk (l := PySem.Challenge.rw_notslower_k03_places_and_parts) (n := 63) (k := NS.KL) (x := "_law_script") rfl (by decide) (by kernel_rfl) ⟨rfl, by decide, by decide⟩ ?F
    intro w mg fa h Y G hmg0
    obtain ⟨K, KX, c, ce⟩ := Y
    have hmg : mg ("law" : PySem.Str) = some (.ref fa) := by
      have e : (HandSHeadRun.topDef (OpenLaw.row PySem.Challenge.rw_notslower_k03_places_and_parts).prog 24).name = ("law" : PySem.Str) := by kernel_rfl
      rw [← e]
      exact hmg0
    obtain ⟨fd, sp, hb, hsp, hF⟩ := NS.law_facts (T := NS.T) (P := (PySem.Challenge.rw_notslower_k03_places_and_parts).prog) (w := w) (d := NS.d21) (i := 21) (k := NS.KL) (n := 63) NS.df_ok KX G c ce rfl rfl rfl hmg NS.holds
    exact ⟨K, fd, sp, KX, hb, hsp, hF⟩

