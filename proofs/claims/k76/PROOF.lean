import PyProof.Rows.All
import Wide.All
import OpenK.AllK
import Wide.FinOn
import HandS.ForMost
import HandS.Deep
import HandS.Conv
import HandS.Flow
import HandS.IsInst
import HandS.WordsExc
import HandS.CallSlots
import HandS.TupAny
import HandS.Dict
import HandS.Iter
import HandS.More
import KE.DataEq
import HandS.Text
import HandS.RaiseMore
import HandS.Zip
import KE.GoesNew
import HandS.HotCalls
import HandS.Star
import HandS.StrMore
import HandS.Style
import HandS.SortInts
import KE.KDictZip
import PyProof.ListNew
import KE.KExcSuper
import HandS.Exc
import HandS.HeadWalk
import HandS.ExcCtx
import KE.KExcIs
import HandS.ExcField
import HandS.HeadHook3
import HandS.Head0
import HandS.Head1
import HandS.Head2
import HandS.HeadEnd
import HandS.HeadHook1
import HandS.HeadHook2
import PySem.Challenge.RW_notslower_k76_errors_are_told_apart
set_option Elab.async false
set_option linter.all false
set_option maxRecDepth 100000
namespace NS
open PySem PySem.Spec PyProof.Rows L2

/-! ## 1. data -/
/-- data by value; a flag tells a container that one place alone holds -/
inductive D where
  | non | bl (b : Bool) | int (i : Int) | str (x : Str)
  | tup (xs : List D)
  | lst (o : Bool) (xs : List D)
  /-- a list that is read alone: the script -/
  | ro (xs : List D)
  | dct (o : Bool) (ks : List Key) (xs : List D)
  | obj (o : Bool) (c : Nat) (ks : List Str) (xs : List D)

def D.own : D → Bool
  | .lst o _ => o
  | .dct o _ _ => o
  | .obj o _ _ _ => o
  | _ => false
mutual
/-- shared from now on -/
def D.frz : D → D
  | .lst _ xs => .lst false xs
  | .dct _ ks xs => .dct false ks xs
  | .obj _ c ks xs => .obj false c ks (D.frzs xs)
  | d => d
def D.frzs : List D → List D
  | [] => []
  | d :: ds => d.frz :: D.frzs ds
end

section
variable (K : PySem.W.Frag) (cA : Nat → Addr)
mutual
/-- the data d stands at v, by objects of F alone -/
def RepF (F : Hp) : D → V → Prop
  | .non, v => v = .non
  | .bl b, v => v = .bl b
  | .int i, v => v = .int i
  | .str x, v => v = .str x
  | .tup xs, v => ∃ a vs, v = .ref a ∧ SqT K F a vs ∧ RepFs F xs vs
  | .lst _ xs, v => ∃ a vs, v = .ref a ∧ F a = some (.lst vs) ∧ RepFs F xs vs
  | .ro xs, v => ∃ a vs, v = .ref a ∧ SqL K F a vs ∧ RepFs F xs vs
  | .dct _ ks xs, v => ∃ a vs, v = .ref a ∧ Rd F a (.dK (ks.zip vs)) ∧ ks.length = vs.length ∧ RepFs F xs vs
  | .obj _ c ks xs, v => ∃ a dx vs, v = .ref a ∧ F a = some (.ins (cA c) dx (ks.zip vs)) ∧ ks.length = vs.length ∧ RepFs F xs vs
def RepFs (F : Hp) : List D → List V → Prop
  | [], vs => vs = []
  | d :: ds, vs => ∃ v r, vs = v :: r ∧ RepF F d v ∧ RepFs F ds r
end
mutual
/-- .. where a container of one place stands in H, at the addresses l -/
def Vl (F H : Hp) : D → V → List Addr → Prop
  | .lst true xs, v, l => ∃ a vs, v = .ref a ∧ H a = some (.lst vs) ∧ RepFs K cA F xs vs ∧ l = [a]
  | .dct true ks xs, v, l => ∃ a vs, v = .ref a ∧ H a = some (.dK (ks.zip vs)) ∧ ks.length = vs.length ∧ RepFs K cA F xs vs ∧ l = [a]
  | .obj true c ks xs, v, l => ∃ a dx vs ls, v = .ref a ∧ H a = some (.ins (cA c) dx (ks.zip vs)) ∧ ks.length = vs.length ∧ Vls F H xs vs ls ∧ l = a :: ls
  | d, v, l => RepF K cA F d v ∧ l = []
def Vls (F H : Hp) : List D → List V → List Addr → Prop
  | [], vs, l => vs = [] ∧ l = []
  | d :: ds, vs, l => ∃ v r l1 l2, vs = v :: r ∧ Vl F H d v l1 ∧ Vls F H ds r l2 ∧ l = l1 ++ l2
end
end

abbrev Sl := List (Option D)
/-- an exception: its class, its fields -/
structure Xn where
  c : Nat
  at_ : List (Str × D)
inductive R (α : Type) where
  | ok (a : α) (s : Sl)
  | ex (x : Xn) (s : Sl)
  | no
/-- an expression's value: data, or what one place (a slot) holds -/
inductive EV where
  | val (d : D)
  | al (i : Nat)

section
variable {K : PySem.W.Frag} {cA : Nat → Addr} {F F' P H H' : Hp}

theorem SqT_mono {a : Addr} {vs : List V} (h : SqT K F a vs) (e : Same F F') : SqT K F' a vs := by
  rcases h with (h | ⟨o, h⟩) | h
  · exact .inl (.inl (e _ _ h))
  · exact .inl (.inr ⟨o, e _ _ h⟩)
  · exact .inr h
mutual
theorem RepF.mono (e : Same F F') : ∀ (d : D) (v : V), RepF K cA F d v → RepF K cA F' d v
  | .non, v, h => h
  | .bl _, v, h => h
  | .int _, v, h => h
  | .str _, v, h => h
  | .tup xs, v, h => by
    obtain ⟨a, vs, h1, h2, h3⟩ := h
    exact ⟨a, vs, h1, SqT_mono h2 e, RepFs.mono e xs vs h3⟩
  | .lst _ xs, v, h => by
    obtain ⟨a, vs, h1, h2, h3⟩ := h
    exact ⟨a, vs, h1, e _ _ h2, RepFs.mono e xs vs h3⟩
  | .ro xs, v, h => by
    obtain ⟨a, vs, h1, h2, h3⟩ := h
    exact ⟨a, vs, h1, e.seq h2, RepFs.mono e xs vs h3⟩
  | .dct _ ks xs, v, h => by
    obtain ⟨a, vs, h1, h2, hl, h3⟩ := h
    exact ⟨a, vs, h1, h2.elim (fun z => .inl (e _ _ z)) (fun ⟨o, z⟩ => .inr ⟨o, e _ _ z⟩), hl, RepFs.mono e xs vs h3⟩
  | .obj _ c ks xs, v, h => by
    obtain ⟨a, dx, vs, h1, h2, hl, h3⟩ := h
    exact ⟨a, dx, vs, h1, e _ _ h2, hl, RepFs.mono e xs vs h3⟩
theorem RepFs.mono (e : Same F F') : ∀ (ds : List D) (vs : List V), RepFs K cA F ds vs → RepFs K cA F' ds vs
  | [], vs, h => h
  | d :: ds, vs, h => by
    obtain ⟨v, r, h1, h2, h3⟩ := h
    exact ⟨v, r, h1, RepF.mono e d v h2, RepFs.mono e ds r h3⟩
end
mutual
theorem RepF.frz : ∀ (d : D) (v : V), RepF K cA F d v → RepF K cA F d.frz v
  | .non, v, h => h
  | .bl _, v, h => h
  | .int _, v, h => h
  | .str _, v, h => h
  | .tup xs, v, h => h
  | .lst _ xs, v, h => h
  | .ro xs, v, h => h
  | .dct _ ks xs, v, h => h
  | .obj _ c ks xs, v, h => by
    obtain ⟨a, dx, vs, h1, h2, hl, h3⟩ := h
    exact ⟨a, dx, vs, h1, h2, hl, RepFs.frz xs vs h3⟩
theorem RepFs.frz : ∀ (ds : List D) (vs : List V), RepFs K cA F ds vs → RepFs K cA F (D.frzs ds) vs
  | [], vs, h => h
  | d :: ds, vs, h => by
    obtain ⟨v, r, h1, h2, h3⟩ := h
    exact ⟨v, r, h1, RepF.frz d v h2, RepFs.frz ds r h3⟩
end
theorem RepFs.length : ∀ {ds : List D} {vs : List V}, RepFs K cA F ds vs → ds.length = vs.length
  | [], vs, h => by
    have h : vs = [] := h
    rw [h]
    rfl
  | d :: ds, vs, h => by
    obtain ⟨v, r, rfl, _, h3⟩ := h
    rw [List.length_cons, List.length_cons, RepFs.length h3]
theorem RepFs.get : ∀ {ds : List D} {vs : List V} {i : Nat} {d : D}, RepFs K cA F ds vs → ds[i]? = some d → ∃ v, vs[i]? = some v ∧ RepF K cA F d v
  | [], vs, i, d, h, e => by simp at e
  | d :: ds, vs, 0, d', h, e => by
    obtain ⟨v, r, rfl, h2, h3⟩ := h
    simp at e
    subst e
    exact ⟨v, rfl, h2⟩
  | d :: ds, vs, i + 1, d', h, e => by
    obtain ⟨v, r, rfl, h2, h3⟩ := h
    obtain ⟨u, e1, e2⟩ := RepFs.get (i := i) h3 (by simpa using e)
    exact ⟨u, by simpa using e1, e2⟩
theorem RepFs.append : ∀ {ds es : List D} {vs us : List V}, RepFs K cA F ds vs → RepFs K cA F es us → RepFs K cA F (ds ++ es) (vs ++ us)
  | [], es, vs, us, h, h' => by
    have h : vs = [] := h
    subst h
    exact h'
  | d :: ds, es, vs, us, h, h' => by
    obtain ⟨v, r, rfl, h2, h3⟩ := h
    exact ⟨v, r ++ us, rfl, h2, RepFs.append h3 h'⟩
theorem RepFs.one {d : D} {v : V} (h : RepF K cA F d v) : RepFs K cA F [d] [v] := ⟨v, [], rfl, h, rfl⟩
theorem RepFs.take : ∀ {ds : List D} {vs : List V} (n : Nat), RepFs K cA F ds vs → RepFs K cA F (ds.take n) (vs.take n)
  | [], vs, n, h => by
    have h : vs = [] := h
    subst h
    rw [List.take_nil, List.take_nil]
    exact rfl
  | d :: ds, vs, 0, h => rfl
  | d :: ds, vs, n + 1, h => by
    obtain ⟨v, r, rfl, h2, h3⟩ := h
    exact ⟨v, r.take n, rfl, h2, RepFs.take n h3⟩
theorem RepFs.drop : ∀ {ds : List D} {vs : List V} (n : Nat), RepFs K cA F ds vs → RepFs K cA F (ds.drop n) (vs.drop n)
  | [], vs, n, h => by
    have h : vs = [] := h
    subst h
    rw [List.drop_nil, List.drop_nil]
    exact rfl
  | d :: ds, vs, 0, h => h
  | d :: ds, vs, n + 1, h => by
    obtain ⟨v, r, rfl, h2, h3⟩ := h
    exact RepFs.drop n h3
theorem RepFs.set : ∀ {ds : List D} {vs : List V} {d : D} {v : V} (n : Nat), RepFs K cA F ds vs → RepF K cA F d v → RepFs K cA F (ds.set n d) (vs.set n v)
  | [], vs, d, v, n, h, h' => by
    have h : vs = [] := h
    subst h
    exact rfl
  | d :: ds, vs, d', v', 0, h, h' => by
    obtain ⟨v, r, rfl, h2, h3⟩ := h
    exact ⟨v', r, rfl, h', h3⟩
  | d :: ds, vs, d', v', n + 1, h, h' => by
    obtain ⟨v, r, rfl, h2, h3⟩ := h
    exact ⟨v, r.set n v', rfl, h2, RepFs.set n h3 h'⟩
mutual
theorem Vl.keep (e : Same F F') : ∀ (d : D) (v : V) (l : List Addr), Vl K cA F H d v l → (∀ a ∈ l, H' a = H a) → Vl K cA F' H' d v l
  | .lst true xs, v, l, h, q => by
    obtain ⟨a, vs, h1, h2, h3, rfl⟩ := h
    exact ⟨a, vs, h1, by rw [q a (by simp)]; exact h2, h3.mono e, rfl⟩
  | .dct true ks xs, v, l, h, q => by
    obtain ⟨a, vs, h1, h2, hl, h3, rfl⟩ := h
    exact ⟨a, vs, h1, by rw [q a (by simp)]; exact h2, hl, h3.mono e, rfl⟩
  | .obj true c ks xs, v, l, h, q => by
    obtain ⟨a, dx, vs, ls, h1, h2, hl, h3, rfl⟩ := h
    exact ⟨a, dx, vs, ls, h1, by rw [q a (by simp)]; exact h2, hl, Vls.keep e xs vs ls h3 (fun b hb => q b (List.mem_cons_of_mem _ hb)), rfl⟩
  | .non, v, l, h, q => ⟨h.1, h.2⟩
  | .bl _, v, l, h, q => ⟨h.1, h.2⟩
  | .int _, v, l, h, q => ⟨h.1, h.2⟩
  | .str _, v, l, h, q => ⟨h.1, h.2⟩
  | .tup xs, v, l, h, q => ⟨RepF.mono e _ _ h.1, h.2⟩
  | .ro xs, v, l, h, q => ⟨RepF.mono e _ _ h.1, h.2⟩
  | .lst false xs, v, l, h, q => ⟨RepF.mono e _ _ h.1, h.2⟩
  | .dct false ks xs, v, l, h, q => ⟨RepF.mono e _ _ h.1, h.2⟩
  | .obj false c ks xs, v, l, h, q => ⟨RepF.mono e _ _ h.1, h.2⟩
theorem Vls.keep (e : Same F F') : ∀ (ds : List D) (vs : List V) (l : List Addr), Vls K cA F H ds vs l → (∀ a ∈ l, H' a = H a) → Vls K cA F' H' ds vs l
  | [], vs, l, h, q => h
  | d :: ds, vs, l, h, q => by
    obtain ⟨v, r, l1, l2, h1, h2, h3, rfl⟩ := h
    exact ⟨v, r, l1, l2, h1, Vl.keep e d v l1 h2 (fun b hb => q b (List.mem_append_left _ hb)), Vls.keep e ds r l2 h3 (fun b hb => q b (List.mem_append_right _ hb)), rfl⟩
end
theorem Vl.of_frozen : ∀ {d : D} {v : V} {l : List Addr}, d.own = false → Vl K cA F H d v l → RepF K cA F d v ∧ l = []
  | .non, v, l, _, h => h
  | .bl _, v, l, _, h => h
  | .int _, v, l, _, h => h
  | .str _, v, l, _, h => h
  | .tup xs, v, l, _, h => h
  | .ro xs, v, l, _, h => h
  | .lst false xs, v, l, _, h => h
  | .dct false ks xs, v, l, _, h => h
  | .obj false c ks xs, v, l, _, h => h
  | .lst true _, _, _, e, _ => by cases e
  | .dct true _ _, _, _, e, _ => by cases e
  | .obj true _ _ _, _, _, e, _ => by cases e
theorem Vl.frozen : ∀ {d : D} {v : V}, d.own = false → RepF K cA F d v → Vl K cA F H d v []
  | .non, v, _, h => ⟨h, rfl⟩
  | .bl _, v, _, h => ⟨h, rfl⟩
  | .int _, v, _, h => ⟨h, rfl⟩
  | .str _, v, _, h => ⟨h, rfl⟩
  | .tup xs, v, _, h => ⟨h, rfl⟩
  | .ro xs, v, _, h => ⟨h, rfl⟩
  | .lst false xs, v, _, h => ⟨h, rfl⟩
  | .dct false ks xs, v, _, h => ⟨h, rfl⟩
  | .obj false c ks xs, v, _, h => ⟨h, rfl⟩
  | .lst true _, _, e, _ => by cases e
  | .dct true _ _, _, e, _ => by cases e
  | .obj true _ _ _, _, e, _ => by cases e
theorem D.frz_own : ∀ d : D, d.frz.own = false
  | .non => rfl
  | .bl _ => rfl
  | .int _ => rfl
  | .str _ => rfl
  | .tup _ => rfl
  | .ro _ => rfl
  | .lst _ _ => rfl
  | .dct _ _ _ => rfl
  | .obj _ _ _ _ => rfl
mutual
/-- a container of one place becomes shared: its objects go into F' -/
theorem Vl.freeze (e : Same F F') : ∀ (d : D) (v : V) (l : List Addr), Vl K cA F H d v l → (∀ a ∈ l, ∀ o, H a = some o → F' a = some o) → RepF K cA F' d.frz v
  | .lst true xs, v, l, h, q => by
    obtain ⟨a, vs, h1, h2, h3, rfl⟩ := h
    exact ⟨a, vs, h1, q a (by simp) _ h2, h3.mono e⟩
  | .dct true ks xs, v, l, h, q => by
    obtain ⟨a, vs, h1, h2, hl, h3, rfl⟩ := h
    exact ⟨a, vs, h1, .inl (q a (by simp) _ h2), hl, h3.mono e⟩
  | .obj true c ks xs, v, l, h, q => by
    obtain ⟨a, dx, vs, ls, h1, h2, hl, h3, rfl⟩ := h
    exact ⟨a, dx, vs, h1, q a (by simp) _ h2, hl, Vls.freeze e xs vs ls h3 fun b hb => q b (List.mem_cons_of_mem _ hb)⟩
  | .non, v, l, h, q => h.1
  | .bl _, v, l, h, q => h.1
  | .int _, v, l, h, q => h.1
  | .str _, v, l, h, q => h.1
  | .tup xs, v, l, h, q => RepF.mono e _ _ h.1
  | .ro xs, v, l, h, q => RepF.mono e _ _ h.1
  | .lst false xs, v, l, h, q => RepF.mono e _ _ h.1
  | .dct false ks xs, v, l, h, q => RepF.mono e _ _ h.1
  | .obj false c ks xs, v, l, h, q => RepF.frz _ _ (RepF.mono e _ _ h.1)
theorem Vls.freeze (e : Same F F') : ∀ (ds : List D) (vs : List V) (l : List Addr), Vls K cA F H ds vs l → (∀ a ∈ l, ∀ o, H a = some o → F' a = some o) → RepFs K cA F' (D.frzs ds) vs
  | [], vs, l, h, q => h.1
  | d :: ds, vs, l, h, q => by
    obtain ⟨v, r, l1, l2, h1, h2, h3, rfl⟩ := h
    exact ⟨v, r, h1, Vl.freeze e d v l1 h2 (fun b hb => q b (List.mem_append_left _ hb)), Vls.freeze e ds r l2 h3 (fun b hb => q b (List.mem_append_right _ hb))⟩
end
mutual
theorem Vl.there : ∀ (d : D) (v : V) (l : List Addr), Vl K cA F H d v l → ∀ a ∈ l, ∃ o, H a = some o
  | .lst true xs, v, l, h => by
    obtain ⟨a, vs, h1, h2, h3, rfl⟩ := h
    intro b hb
    rw [List.mem_singleton.mp hb]
    exact ⟨_, h2⟩
  | .dct true ks xs, v, l, h => by
    obtain ⟨a, vs, h1, h2, hl, h3, rfl⟩ := h
    intro b hb
    rw [List.mem_singleton.mp hb]
    exact ⟨_, h2⟩
  | .obj true c ks xs, v, l, h => by
    obtain ⟨a, dx, vs, ls, h1, h2, hl, h3, rfl⟩ := h
    intro b hb
    rcases List.mem_cons.mp hb with rfl | hb
    · exact ⟨_, h2⟩
    · exact Vls.there xs vs ls h3 b hb
  | .non, v, l, h => by rw [h.2]; intro _ z; cases z
  | .bl _, v, l, h => by rw [h.2]; intro _ z; cases z
  | .int _, v, l, h => by rw [h.2]; intro _ z; cases z
  | .str _, v, l, h => by rw [h.2]; intro _ z; cases z
  | .tup xs, v, l, h => by rw [h.2]; intro _ z; cases z
  | .ro xs, v, l, h => by rw [h.2]; intro _ z; cases z
  | .lst false xs, v, l, h => by rw [h.2]; intro _ z; cases z
  | .dct false ks xs, v, l, h => by rw [h.2]; intro _ z; cases z
  | .obj false c ks xs, v, l, h => by rw [h.2]; intro _ z; cases z
theorem Vls.there : ∀ (ds : List D) (vs : List V) (l : List Addr), Vls K cA F H ds vs l → ∀ a ∈ l, ∃ o, H a = some o
  | [], vs, l, h => by rw [h.2]; intro _ z; cases z
  | d :: ds, vs, l, h => by
    obtain ⟨v, r, l1, l2, h1, h2, h3, rfl⟩ := h
    intro b hb
    rcases List.mem_append.mp hb with hb | hb
    · exact Vl.there d v l1 h2 b hb
    · exact Vls.there ds r l2 h3 b hb
end
end
end NS
namespace NS
open PySem PySem.Spec PyProof.Rows L2

/-- a footprint with one more, one taken away -/
def fset (fp : Nat → List Addr) (i : Nat) (l : List Addr) : Nat → List Addr := fun j => if j = i then l else fp j
theorem fset_same {fp : Nat → List Addr} {i : Nat} {l : List Addr} : fset fp i l i = l := if_pos rfl
theorem fset_ne {fp : Nat → List Addr} {i j : Nat} {l : List Addr} (h : j ≠ i) : fset fp i l j = fp j := if_neg h
/-- what stands in H at l goes to F -/
def fzn (F H : Hp) (l : List Addr) : Hp := fun b => if b ∈ l then H b else F b
theorem fzn_same {F H : Hp} {l : List Addr} (h : ∀ a ∈ l, F a = none) : Same F (fzn F H l) := fun b o e => by
  unfold fzn
  by_cases hb : b ∈ l
  · rw [h b hb] at e; cases e
  · rw [if_neg hb]; exact e
theorem fzn_in {F H : Hp} {l : List Addr} {a : Addr} (h : a ∈ l) : fzn F H l a = H a := if_pos h
theorem fzn_out {F H : Hp} {l : List Addr} {a : Addr} (h : a ∉ l) : fzn F H l a = F a := if_neg h

section
variable (K : PySem.W.Frag) (cA : Nat → Addr)
/-- THE RELATION: slots by value (s) against slots (σ) and heap (H). F: what is shared and never changes; P: what must stay and may not be leant on; pn: slots that keep their value; fp: the objects of the slots' own containers -/
structure Rl (F P : Hp) (pn : Nat → Option V) (fp : Nat → List Addr) (s : Sl) (σ : L2.St) (H : Hp) : Prop where
  len : s.length = σ.length
  fz : Same F H
  pr : Same P H
  sl : ∀ i d, s[i]? = some (some d) → ∃ v, σ[i]? = some (some v) ∧ Vl K cA F H d v (fp i)
  nl : ∀ i, (∀ d, s[i]? ≠ some (some d)) → fp i = []
  nd : ∀ i, (fp i).Nodup
  dj : ∀ i j a, a ∈ fp i → a ∈ fp j → i = j
  fr : ∀ i a, a ∈ fp i → F a = none ∧ P a = none
  pn : ∀ i v, pn i = some v → σ[i]? = some (some v)
  fd : ∀ a o, P a = some o → F a = none
end
section
variable {K : PySem.W.Frag} {cA : Nat → Addr} {F F' P P' H H' : Hp} {pn : Nat → Option V} {fp fp' : Nat → List Addr} {s s' : Sl} {σ σ' : L2.St}

theorem Rl.there (r : Rl K cA F P pn fp s σ H) {i : Nat} {a : Addr} (h : a ∈ fp i) : ∃ o, H a = some o := by
  cases e : s[i]? with
  | none => rw [r.nl i (fun d z => by rw [e] at z; cases z)] at h; cases h
  | some x =>
    cases x with
    | none => rw [r.nl i (fun d z => by rw [e] at z; cases z)] at h; cases h
    | some d =>
      obtain ⟨v, _, q⟩ := r.sl i d e
      exact Vl.there d v _ q a h
theorem Rl.fsame (r : Rl K cA F P pn fp s σ H) (i : Nat) : Same F (fzn F H (fp i)) := fzn_same fun a h => (r.fr i a h).1
/-- a slot's container is shared from now on -/
theorem Rl.freeze (r : Rl K cA F P pn fp s σ H) {i : Nat} {d : D} (e : s[i]? = some (some d)) : Rl K cA (fzn F H (fp i)) P pn (fset fp i []) (s.set i (some d.frz)) σ H := by
  have hi : i < s.length := (List.getElem?_eq_some_iff.mp e).1
  refine ⟨by rw [List.length_set]; exact r.len, fun a o h => ?_, r.pr, fun j d' h => ?_, fun j h => ?_, fun j => ?_, fun j k a h1 h2 => ?_, fun j a h => ?_, r.pn, fun a o h => ?_⟩
  · unfold fzn at h
    split at h
    · exact h
    · exact r.fz a o h
  · by_cases hj : j = i
    · subst hj
      rw [List.getElem?_set_self hi] at h
      cases h
      obtain ⟨v, e1, q⟩ := r.sl j d e
      refine ⟨v, e1, ?_⟩
      rw [fset_same]
      exact Vl.frozen (D.frz_own d) (Vl.freeze (r.fsame j) d v _ q fun a ha o h => by rw [fzn_in ha]; exact h)
    · rw [List.getElem?_set_ne (Ne.symm hj)] at h
      obtain ⟨v, e1, q⟩ := r.sl j d' h
      refine ⟨v, e1, ?_⟩
      rw [fset_ne hj]
      exact Vl.keep (r.fsame i) d' v _ q fun _ _ => rfl
  · by_cases hj : j = i
    · subst hj; exact fset_same
    · rw [fset_ne hj]
      exact r.nl j fun d' z => h d' (by rw [List.getElem?_set_ne (Ne.symm hj)]; exact z)
  · by_cases hj : j = i
    · subst hj; rw [fset_same]; exact List.nodup_nil
    · rw [fset_ne hj]; exact r.nd j
  · by_cases hj : j = i
    · subst hj; rw [fset_same] at h1; cases h1
    · by_cases hk : k = i
      · subst hk; rw [fset_same] at h2; cases h2
      · rw [fset_ne hj] at h1; rw [fset_ne hk] at h2; exact r.dj j k a h1 h2
  · by_cases hj : j = i
    · subst hj; rw [fset_same] at h; cases h
    · rw [fset_ne hj] at h
      obtain ⟨h1, h2⟩ := r.fr j a h
      refine ⟨?_, h2⟩
      rw [fzn_out fun z => hj (r.dj j i a h z)]
      exact h1
  · rw [fzn_out fun z => by rw [(r.fr i a z).2] at h; cases h]
    exact r.fd a o h
/-- a slot is forgotten -/
theorem Rl.drop (r : Rl K cA F P pn fp s σ H) (i : Nat) : Rl K cA F P pn (fset fp i []) (s.set i none) σ H := by
  refine ⟨by rw [List.length_set]; exact r.len, r.fz, r.pr, fun j d' h => ?_, fun j h => ?_, fun j => ?_, fun j k a h1 h2 => ?_, fun j a h => ?_, r.pn, r.fd⟩
  · by_cases hj : j = i
    · subst hj
      by_cases hi : j < s.length
      · rw [List.getElem?_set_self hi] at h; cases h
      · rw [List.getElem?_eq_none (by rw [List.length_set]; omega)] at h; cases h
    · rw [List.getElem?_set_ne (Ne.symm hj)] at h
      rw [fset_ne hj]
      exact r.sl j d' h
  · by_cases hj : j = i
    · subst hj; exact fset_same
    · rw [fset_ne hj]
      exact r.nl j fun d' z => h d' (by rw [List.getElem?_set_ne (Ne.symm hj)]; exact z)
  · by_cases hj : j = i
    · subst hj; rw [fset_same]; exact List.nodup_nil
    · rw [fset_ne hj]; exact r.nd j
  · by_cases hj : j = i
    · subst hj; rw [fset_same] at h1; cases h1
    · by_cases hk : k = i
      · subst hk; rw [fset_same] at h2; cases h2
      · rw [fset_ne hj] at h1; rw [fset_ne hk] at h2; exact r.dj j k a h1 h2
  · by_cases hj : j = i
    · subst hj; rw [fset_same] at h; cases h
    · rw [fset_ne hj] at h
      exact r.fr j a h
/-- a slot takes a value -/
theorem Rl.put (r : Rl K cA F P pn fp s σ H) {i : Nat} {d : D} {v : V} {l : List Addr} (hi : i < s.length) (q : Vl K cA F H d v l) (nd : l.Nodup) (dj : ∀ j a, a ∈ l → a ∈ fp j → j = i) (fr : ∀ a ∈ l, F a = none ∧ P a = none) (hp : ∀ u, pn i = some u → u = v) :
    Rl K cA F P pn (fset fp i l) (s.set i (some d)) (σ.set i (some v)) H := by
  have hs : i < σ.length := by rw [← r.len]; exact hi
  refine ⟨by rw [List.length_set, List.length_set]; exact r.len, r.fz, r.pr, fun j d' h => ?_, fun j h => ?_, fun j => ?_, fun j k a h1 h2 => ?_, fun j a h => ?_, fun j u h => ?_, r.fd⟩
  · by_cases hj : j = i
    · subst hj
      rw [List.getElem?_set_self hi] at h
      cases h
      exact ⟨v, List.getElem?_set_self hs, by rw [fset_same]; exact q⟩
    · rw [List.getElem?_set_ne (Ne.symm hj)] at h
      rw [fset_ne hj, List.getElem?_set_ne (Ne.symm hj)]
      exact r.sl j d' h
  · by_cases hj : j = i
    · subst hj
      exact absurd (List.getElem?_set_self hi) (h d)
    · rw [fset_ne hj]
      exact r.nl j fun d' z => h d' (by rw [List.getElem?_set_ne (Ne.symm hj)]; exact z)
  · by_cases hj : j = i
    · subst hj; rw [fset_same]; exact nd
    · rw [fset_ne hj]; exact r.nd j
  · by_cases hj : j = i
    · subst hj
      rw [fset_same] at h1
      by_cases hk : k = j
      · exact hk.symm
      · rw [fset_ne hk] at h2
        exact (dj k a h1 h2).symm
    · rw [fset_ne hj] at h1
      by_cases hk : k = i
      · subst hk
        rw [fset_same] at h2
        exact dj j a h2 h1
      · rw [fset_ne hk] at h2; exact r.dj j k a h1 h2
  · by_cases hj : j = i
    · subst hj; rw [fset_same] at h; exact fr a h
    · rw [fset_ne hj] at h
      exact r.fr j a h
  · by_cases hj : j = i
    · subst hj
      rw [List.getElem?_set_self hs, hp u h]
    · rw [List.getElem?_set_ne (Ne.symm hj)]
      exact r.pn j u h
/-- more is shared -/
theorem Rl.more (r : Rl K cA F P pn fp s σ H) (e : Same F F') (h : Same F' H) (fr : ∀ i a, a ∈ fp i → F' a = none) (fd : ∀ a o, P a = some o → F' a = none) : Rl K cA F' P pn fp s σ H :=
  ⟨r.len, h, r.pr, fun i d q => let ⟨v, h1, h2⟩ := r.sl i d q; ⟨v, h1, Vl.keep e d v _ h2 fun _ _ => rfl⟩, r.nl, r.nd, r.dj, fun i a q => ⟨fr i a q, (r.fr i a q).2⟩, r.pn, fd⟩
/-- the heap has more, or other things where nobody looks -/
theorem Rl.heap (r : Rl K cA F P pn fp s σ H) (h : Same F H') (hp : Same P H') (k : ∀ i a, a ∈ fp i → H' a = H a) : Rl K cA F P pn fp s σ H' :=
  ⟨r.len, h, hp, fun i d q => let ⟨v, h1, h2⟩ := r.sl i d q; ⟨v, h1, Vl.keep (fun _ _ z => z) d v _ h2 (k i)⟩, r.nl, r.nd, r.dj, r.fr, r.pn, r.fd⟩
theorem same_upd {H : Hp} {p : Addr} (h : H p = none) (o : HO) : Same H (upd H p o) := fun b u q => by rw [upd_ne (ne_of_none q h)]; exact q
theorem Same.none {F H : Hp} (e : Same F H) {p : Addr} (h : H p = Option.none) : F p = Option.none := e.free h
theorem Rl.new (r : Rl K cA F P pn fp s σ H) {p : Addr} (h : H p = none) (o : HO) : Rl K cA F P pn fp s σ (upd H p o) :=
  r.heap (r.fz.trans (same_upd h o)) (r.pr.trans (same_upd h o)) fun i a q => by
    obtain ⟨u, e⟩ := r.there q
    exact upd_ne (ne_of_none e h)
/-- a new object, shared at once -/
theorem Rl.newF (r : Rl K cA F P pn fp s σ H) {p : Addr} (h : H p = none) (o : HO) : Rl K cA (upd F p o) P pn fp s σ (upd H p o) :=
  (r.new h o).more (same_upd (Same.free r.fz h) o) (fun b u q => by
    by_cases hb : b = p
    · subst hb; rw [upd_same] at q ⊢; exact q
    · rw [upd_ne hb] at q ⊢; exact r.fz b u q) (fun i a q => by
    obtain ⟨u, e⟩ := r.there q
    rw [upd_ne (ne_of_none e h)]
    exact (r.fr i a q).1) fun a u q => by
    rw [upd_ne (ne_of_none (r.pr a u q) h)]
    exact r.fd a u q
/-- a slot's own container is written -/
theorem Rl.write (r : Rl K cA F P pn fp s σ H) {i : Nat} {d d' : D} {v : V} {a : Addr} {o : HO} (e : s[i]? = some (some d)) (hv : σ[i]? = some (some v)) (ha : a ∈ fp i) (q : Vl K cA F (upd H a o) d' v (fp i)) :
    Rl K cA F P pn fp (s.set i (some d')) σ (upd H a o) := by
  have hi : i < s.length := (List.getElem?_eq_some_iff.mp e).1
  have up : ∀ {G : Hp}, Same G H → G a = none → Same G (upd H a o) := fun {G} g z b u hb => by
    rw [upd_ne (ne_of_none hb z)]
    exact g b u hb
  refine ⟨by rw [List.length_set]; exact r.len, up r.fz (r.fr i a ha).1, up r.pr (r.fr i a ha).2, fun j d1 h => ?_, fun j h => ?_, r.nd, r.dj, r.fr, r.pn, r.fd⟩
  · by_cases hj : j = i
    · subst hj
      rw [List.getElem?_set_self hi] at h
      cases h
      exact ⟨v, hv, q⟩
    · rw [List.getElem?_set_ne (Ne.symm hj)] at h
      obtain ⟨u, h1, h2⟩ := r.sl j d1 h
      exact ⟨u, h1, Vl.keep (fun _ _ z => z) d1 u _ h2 fun b hb => upd_ne fun z => hj (r.dj j i b hb (by rw [z]; exact ha))⟩
  · by_cases hj : j = i
    · subst hj
      exact absurd (List.getElem?_set_self hi) (h d')
    · exact r.nl j fun d1 z => h d1 (by rw [List.getElem?_set_ne (Ne.symm hj)]; exact z)
/-- a slot is forgotten, by value and as a slot -/
theorem Rl.dropB (r : Rl K cA F P pn fp s σ H) {i : Nat} (hp : pn i = none) : Rl K cA F P pn (fset fp i []) (s.set i none) (σ.set i none) H := by
  have d := r.drop i
  refine ⟨by rw [List.length_set, List.length_set]; exact r.len, d.fz, d.pr, fun j d' h => ?_, d.nl, d.nd, d.dj, d.fr, fun j v h => ?_, d.fd⟩
  · have hj : j ≠ i := by
      intro z
      subst z
      by_cases hi : j < s.length
      · rw [List.getElem?_set_self hi] at h; cases h
      · rw [List.getElem?_eq_none (by rw [List.length_set]; omega)] at h; cases h
    rw [List.getElem?_set_ne (Ne.symm hj)]
    exact d.sl j d' h
  · have hj : j ≠ i := by
      intro z
      subst z
      rw [hp] at h; cases h
    rw [List.getElem?_set_ne (Ne.symm hj)]
    exact r.pn j v h
/-- more must stay: an object that nobody leans on -/
theorem Rl.guard (r : Rl K cA F P pn fp s σ H) {a : Addr} {o : HO} (ha : H a = some o) (hF : F a = none) (hp : ∀ i, a ∉ fp i) : Rl K cA F (upd P a o) pn fp s σ H := by
  refine ⟨r.len, r.fz, fun b u q => ?_, r.sl, r.nl, r.nd, r.dj, fun i b h => ⟨(r.fr i b h).1, ?_⟩, r.pn, fun b u q => ?_⟩
  · by_cases hb : b = a
    · subst hb; rw [upd_same] at q; cases q; exact ha
    · rw [upd_ne hb] at q; exact r.pr b u q
  · rw [upd_ne fun z => hp i (by rw [← z]; exact h)]
    exact (r.fr i b h).2
  · by_cases hb : b = a
    · subst hb; exact hF
    · rw [upd_ne hb] at q; exact r.fd b u q
/-- less must stay -/
theorem Rl.unguard (r : Rl K cA F P' pn fp s σ H) (e : Same P P') : Rl K cA F P pn fp s σ H :=
  ⟨r.len, r.fz, e.trans r.pr, r.sl, r.nl, r.nd, r.dj, fun i b h => ⟨(r.fr i b h).1, Same.free e (r.fr i b h).2⟩, r.pn, fun b u q => r.fd b u (e b u q)⟩
/-- an object that nobody leans on is changed -/
theorem Rl.other (r : Rl K cA F P pn fp s σ H) {a : Addr} {o : HO} (hF : F a = none) (hP : P a = none) (hp : ∀ i, a ∉ fp i) : Rl K cA F P pn fp s σ (upd H a o) :=
  r.heap (fun b u q => by rw [upd_ne (ne_of_none q hF)]; exact r.fz b u q) (fun b u q => by rw [upd_ne (ne_of_none q hP)]; exact r.pr b u q) fun i b h => upd_ne fun z => hp i (by rw [← z]; exact h)
end
end NS
namespace NS
open PySem PySem.Spec PyProof.Rows L2

/-! ## 2. what evaluation comes to -/
def R.bind {α β : Type} (r : R α) (k : α → Sl → R β) : R β :=
  match r with
  | .ok a s => k a s
  | .ex x s => .ex x s
  | .no => .no
/-- as a value that may be kept -/
def evV (ev : EV) (s : Sl) : Option (D × Sl) :=
  match ev with
  | .val d => some (d.frz, s)
  | .al i => match s[i]? with
    | some (some d) => some (d.frz, s.set i (some d.frz))
    | _ => none
def evVs : List EV → Sl → Option (List D × Sl)
  | [], s => some ([], s)
  | e :: es, s => (evV e s).bind fun p => (evVs es p.2).bind fun q => some (p.1 :: q.1, q.2)
/-- as a value that is read at once -/
def evR (ev : EV) (s : Sl) : Option D :=
  match ev with
  | .val d => some d.frz
  | .al i => match s[i]? with
    | some (some d) => some d.frz
    | _ => none
def EV.pend : EV → EV
  | .val d => .val d.frz
  | .al i => .al i

/-- what is fixed through a frame: the wish of an exception, what must stay, the slots that keep their value -/
structure Gx where
  w : WX
  P : Hp
  pn : Nat → Option V
section
variable (K : PySem.W.Frag) (cA : Nat → Addr)
def XnOk (F H : Hp) (x : Xn) (cls : Value) (dx : Option Addr) : Prop :=
  cls = .ref (cA x.c) ∧ ∃ d vs, dx = some d ∧ F d = none ∧ H d = some (.xd ((x.at_.map Prod.fst).zip vs)) ∧ RepFs K cA F (x.at_.map Prod.snd) vs
/-- the relation of an expression's value, just made -/
def Ev (F P H : Hp) (fp : Nat → List Addr) (s : Sl) (σ : L2.St) (v : V) : EV → Prop
  | .val d => ∃ l, Vl K cA F H d v l ∧ l.Nodup ∧ (∀ j a, a ∈ l → a ∈ fp j → False) ∧ ∀ a ∈ l, F a = none ∧ P a = none
  | .al i => (∃ d, s[i]? = some (some d)) ∧ σ[i]? = some (some v)
/-- .. of one that waits -/
def Ep (F : Hp) (σ : L2.St) (v : V) : EV → Prop
  | .val d => RepF K cA F d v ∧ d.own = false
  | .al i => σ[i]? = some (some v)
def Eps (F : Hp) (σ : L2.St) : List V → List EV → Prop
  | [], es => es = []
  | v :: vs, es => ∃ e r, es = e :: r ∧ Ep K cA F σ v e ∧ Eps F σ vs r
/-- an end: the value's wish, or the frame's wish of an exception -/
def Po {α : Type} (W : Gx) (F : Hp) (σ : L2.St) (r : R α) (C : α → Sl → Prop) : Prop :=
  match r with
  | .ok a s => C a s
  | .ex x s => ∀ cls dx H' F' fp', Same F F' → Rl K cA F' W.P W.pn fp' s σ H' → XnOk K cA F' H' x cls dx → W.w cls dx σ H'
  | .no => False
abbrev KE (W : Gx) (F : Hp) (σ : L2.St) (Q : VK) : EV → Sl → Prop := fun ev s => ∀ v H' F' fp', Same F F' → Rl K cA F' W.P W.pn fp' s σ H' → Ev K cA F' W.P H' fp' s σ v ev → Q v H'
abbrev KT (W : Gx) (F : Hp) (σ : L2.St) (Q : Bool → Hp → Prop) : Bool → Sl → Prop := fun b s => ∀ H' F' fp', Same F F' → Rl K cA F' W.P W.pn fp' s σ H' → Q b H'
abbrev KA (W : Gx) (F : Hp) (σ : L2.St) (Q : List V → Hp → Prop) : List EV → Sl → Prop := fun es s => ∀ vs H' F' fp', Same F F' → Rl K cA F' W.P W.pn fp' s σ H' → Eps K cA F' σ vs es → Q vs H'
abbrev KV (W : Gx) (F : Hp) (σ : L2.St) (Q : List V → Hp → Prop) : List D → Sl → Prop := fun ds s => ∀ vs H' F' fp', Same F F' → Rl K cA F' W.P W.pn fp' s σ H' → RepFs K cA F' ds vs → Q vs H'
def tE (W : Gx) (f : Sl → R EV) : TE := fun σ H Q => ∃ F fp s, Rl K cA F W.P W.pn fp s σ H ∧ Po K cA W F σ (f s) (KE K cA W F σ Q)
def tT (W : Gx) (f : Sl → R Bool) : TT := fun σ H Q => ∃ F fp s, Rl K cA F W.P W.pn fp s σ H ∧ Po K cA W F σ (f s) (KT K cA W F σ Q)
def tA (W : Gx) (f : Sl → R (List EV)) : TA := fun σ H Q => ∃ F fp s, Rl K cA F W.P W.pn fp s σ H ∧ Po K cA W F σ (f s) (KA K cA W F σ Q)
def tV (W : Gx) (f : Sl → R (List D)) : TA := fun σ H Q => ∃ F fp s, Rl K cA F W.P W.pn fp s σ H ∧ Po K cA W F σ (f s) (KV K cA W F σ Q)
end

section
variable {K : PySem.W.Frag} {cA : Nat → Addr} {W : Gx} {F F' P H H' : Hp} {pn : Nat → Option V} {fp fp' : Nat → List Addr} {s s' : Sl} {σ : L2.St}

theorem Ev.fro {v : V} {d : D} (ho : d.own = false) (h : RepF K cA F d v) : Ev K cA F W.P H fp s σ v (.val d) :=
  ⟨[], Vl.frozen ho h, List.nodup_nil, (fun j a z => nomatch z), (fun a z => nomatch z)⟩
theorem Ep.mono (e : Same F F') {v : V} {ev : EV} (h : Ep K cA F σ v ev) : Ep K cA F' σ v ev := by
  cases ev with
  | val d => exact ⟨RepF.mono e _ _ h.1, h.2⟩
  | al i => exact h
theorem Eps.mono (e : Same F F') : ∀ {vs : List V} {es : List EV}, Eps K cA F σ vs es → Eps K cA F' σ vs es
  | [], es, h => h
  | v :: vs, es, h => by
    obtain ⟨ev, r, h1, h2, h3⟩ := h
    exact ⟨ev, r, h1, h2.mono e, Eps.mono e h3⟩
/-- a value just made waits: its own objects are shared now -/
theorem Ev.pend {v : V} {ev : EV} (r : Rl K cA F W.P W.pn fp s σ H) (h : Ev K cA F W.P H fp s σ v ev) : ∃ F', Same F F' ∧ Rl K cA F' W.P W.pn fp s σ H ∧ Ep K cA F' σ v ev.pend := by
  cases ev with
  | val d =>
    obtain ⟨l, q, nd, dj, fr⟩ := h
    have e := fzn_same (F := F) (H := H) (l := l) fun a ha => (fr a ha).1
    refine ⟨fzn F H l, e, r.more e (fun a o z => ?_) (fun i a ha => ?_) (fun a o hP => ?_), Vl.freeze e d v l q (fun a ha o z => by rw [fzn_in ha]; exact z), D.frz_own d⟩
    · unfold fzn at z
      split at z
      · exact z
      · exact r.fz a o z
    · rw [fzn_out fun z => dj i a z ha]
      exact (r.fr i a ha).1
    · rw [fzn_out fun z => by rw [(fr a z).2] at hP; cases hP]
      exact r.fd a o hP
  | al i => exact ⟨F, fun _ _ z => z, r, h.2⟩
/-- kept -/
theorem Ep.evV {v : V} {ev : EV} {d : D} (r : Rl K cA F W.P W.pn fp s σ H) (h : Ep K cA F σ v ev) (e : evV ev s = some (d, s')) : ∃ F' fp', Same F F' ∧ Rl K cA F' W.P W.pn fp' s' σ H ∧ RepF K cA F' d v ∧ d.own = false := by
  cases ev with
  | val d' =>
    simp only [NS.evV, Option.some.injEq, Prod.mk.injEq] at e
    obtain ⟨rfl, rfl⟩ := e
    exact ⟨F, fp, fun _ _ z => z, r, RepF.frz _ _ h.1, D.frz_own d'⟩
  | al i =>
    simp only [NS.evV] at e
    split at e
    · rename_i d' hd
      simp only [Option.some.injEq, Prod.mk.injEq] at e
      obtain ⟨rfl, rfl⟩ := e
      obtain ⟨u, hu, q⟩ := r.sl i d' hd
      have hv : σ[i]? = some (some v) := h
      rw [hv] at hu
      cases hu
      exact ⟨_, _, r.fsame i, r.freeze hd, Vl.freeze (r.fsame i) d' v _ q (fun a ha o z => by rw [fzn_in ha]; exact z), D.frz_own d'⟩
    · cases e
theorem Eps.evVs : ∀ {vs : List V} {es : List EV} {ds : List D} {F : Hp} {fp : Nat → List Addr} {s s' : Sl}, Rl K cA F W.P W.pn fp s σ H → Eps K cA F σ vs es → evVs es s = some (ds, s') → ∃ F' fp', Same F F' ∧ Rl K cA F' W.P W.pn fp' s' σ H ∧ RepFs K cA F' ds vs
  | [], es, ds, F, fp, s, s', r, h, e => by
    have h : es = [] := h
    subst h
    simp only [NS.evVs, Option.some.injEq, Prod.mk.injEq] at e
    obtain ⟨rfl, rfl⟩ := e
    exact ⟨F, fp, fun _ _ z => z, r, rfl⟩
  | v :: vs, es, ds, F, fp, s, s', r, h, e => by
    obtain ⟨ev, es', rfl, h1, h2⟩ := h
    simp only [NS.evVs] at e
    obtain ⟨⟨d, s1⟩, e1, e⟩ := Option.bind_eq_some_iff.mp e
    obtain ⟨⟨ds1, s2⟩, e2, e⟩ := Option.bind_eq_some_iff.mp e
    simp only [Option.some.injEq, Prod.mk.injEq] at e
    obtain ⟨rfl, rfl⟩ := e
    obtain ⟨F1, fp1, g1, r1, q1, _⟩ := Ep.evV r h1 e1
    obtain ⟨F2, fp2, g2, r2, q2⟩ := Eps.evVs r1 (h2.mono g1) e2
    exact ⟨F2, fp2, g1.trans g2, r2, v, vs, rfl, RepF.mono g2 _ _ q1, q2⟩
/-- .. just made -/
theorem Ev.evV {v : V} {ev : EV} {d : D} (r : Rl K cA F W.P W.pn fp s σ H) (h : Ev K cA F W.P H fp s σ v ev) (e : NS.evV ev s = some (d, s')) : ∃ F' fp', Same F F' ∧ Rl K cA F' W.P W.pn fp' s' σ H ∧ RepF K cA F' d v ∧ d.own = false := by
  obtain ⟨F1, g1, r1, p1⟩ := h.pend r
  have e' : NS.evV ev.pend s = some (d, s') := by
    cases ev with
    | val d' =>
      simp only [NS.evV, EV.pend] at e ⊢
      rw [← e]
      have z : d'.frz.frz = d'.frz := by
        cases d' <;> try rfl
        rename_i o c ks xs
        simp only [D.frz]
        have : ∀ l : List D, D.frzs (D.frzs l) = D.frzs l := by
          have key : ∀ d : D, d.frz.frz = d.frz := by
            intro d
            induction d using D.rec (motive_2 := fun l => D.frzs (D.frzs l) = D.frzs l) with
            | non => rfl
            | bl _ => rfl
            | int _ => rfl
            | str _ => rfl
            | tup _ _ => rfl
            | lst _ _ _ => rfl
            | ro _ _ => rfl
            | dct _ _ _ _ => rfl
            | obj o c ks xs ih => simp only [D.frz]; rw [ih]
            | nil => rfl
            | cons d l h1 h2 => simp only [D.frzs]; rw [h1, h2]
          intro l
          induction l with
          | nil => rfl
          | cons d l ih => simp only [D.frzs]; rw [key d, ih]
        rw [this]
      rw [z]
    | al i => exact e
  obtain ⟨F2, fp2, g2, r2, q, o⟩ := Ep.evV r1 p1 e'
  exact ⟨F2, fp2, g1.trans g2, r2, q, o⟩
/-- a list that may be read at v -/
theorem Ep.list {v : V} {ev : EV} {o : Bool} {xs : List D} (r : Rl K cA F W.P W.pn fp s σ H) (h : Ep K cA F σ v ev) (e : evR ev s = some (.lst o xs)) : ∃ a vs, v = .ref a ∧ H a = some (.lst vs) ∧ RepFs K cA F xs vs := by
  cases ev with
  | val d' =>
    simp only [evR, Option.some.injEq] at e
    cases d' <;> simp only [D.frz, D.lst.injEq, reduceCtorEq] at e
    obtain ⟨rfl, rfl⟩ := e
    obtain ⟨⟨a, vs, h1, h2, h3⟩, _⟩ := h
    exact ⟨a, vs, h1, r.fz _ _ h2, h3⟩
  | al i =>
    simp only [evR] at e
    split at e
    · rename_i d' hd
      simp only [Option.some.injEq] at e
      cases d' <;> simp only [D.frz, D.lst.injEq, reduceCtorEq] at e
      rename_i o' xs'
      obtain ⟨rfl, rfl⟩ := e
      obtain ⟨u, hu, q⟩ := r.sl i _ hd
      have hv : σ[i]? = some (some v) := h
      rw [hv] at hu
      cases hu
      cases o' with
      | true =>
        obtain ⟨a, vs, h1, h2, h3, _⟩ := q
        exact ⟨a, vs, h1, h2, h3⟩
      | false =>
        obtain ⟨⟨a, vs, h1, h2, h3⟩, _⟩ := q
        exact ⟨a, vs, h1, r.fz _ _ h2, h3⟩
    · cases e
theorem Ep.dict {v : V} {ev : EV} {o : Bool} {ks : List Key} {xs : List D} (r : Rl K cA F W.P W.pn fp s σ H) (h : Ep K cA F σ v ev) (e : evR ev s = some (.dct o ks xs)) : ∃ a vs, v = .ref a ∧ Rd H a (.dK (ks.zip vs)) ∧ ks.length = vs.length ∧ RepFs K cA F xs vs := by
  cases ev with
  | val d' =>
    simp only [evR, Option.some.injEq] at e
    cases d' <;> simp only [D.frz, D.dct.injEq, reduceCtorEq] at e
    obtain ⟨rfl, rfl, rfl⟩ := e
    obtain ⟨⟨a, vs, h1, h2, hl, h3⟩, _⟩ := h
    exact ⟨a, vs, h1, h2.elim (fun z => .inl (r.fz _ _ z)) (fun ⟨o, z⟩ => .inr ⟨o, r.fz _ _ z⟩), hl, h3⟩
  | al i =>
    simp only [evR] at e
    split at e
    · rename_i d' hd
      simp only [Option.some.injEq] at e
      cases d' <;> simp only [D.frz, D.dct.injEq, reduceCtorEq] at e
      rename_i o' ks' xs'
      obtain ⟨rfl, rfl, rfl⟩ := e
      obtain ⟨u, hu, q⟩ := r.sl i _ hd
      have hv : σ[i]? = some (some v) := h
      rw [hv] at hu
      cases hu
      cases o' with
      | true =>
        obtain ⟨a, vs, h1, h2, hl, h3, _⟩ := q
        exact ⟨a, vs, h1, .inl h2, hl, h3⟩
      | false =>
        obtain ⟨⟨a, vs, h1, h2, hl, h3⟩, _⟩ := q
        exact ⟨a, vs, h1, h2.elim (fun z => .inl (r.fz _ _ z)) (fun ⟨o, z⟩ => .inr ⟨o, r.fz _ _ z⟩), hl, h3⟩
    · cases e
/-- data that are no container of one place -/
def D.flat : D → Bool
  | .lst _ _ => false
  | .dct _ _ _ => false
  | .obj _ _ _ _ => false
  | _ => true
theorem Ep.flat {v : V} {ev : EV} {d : D} (r : Rl K cA F W.P W.pn fp s σ H) (h : Ep K cA F σ v ev) (e : evR ev s = some d) (f : d.flat = true) : RepF K cA F d v := by
  cases ev with
  | val d' =>
    simp only [evR, Option.some.injEq] at e
    subst e
    exact RepF.frz _ _ h.1
  | al i =>
    simp only [evR] at e
    split at e
    · rename_i d' hd
      simp only [Option.some.injEq] at e
      subst e
      obtain ⟨u, hu, q⟩ := r.sl i _ hd
      have hv : σ[i]? = some (some v) := h
      rw [hv] at hu
      cases hu
      have ho : d'.own = false := by cases d' <;> simp_all [D.frz, D.flat, D.own]
      exact RepF.frz _ _ (Vl.of_frozen ho q).1
    · cases e

/-! ### composing -/
theorem Po.up {α : Type} {r : R α} {C C' : α → Sl → Prop} (e : Same F F') (h : Po K cA W F σ r C) (hc : ∀ a s, r = .ok a s → C a s → C' a s) : Po K cA W F' σ r C' := by
  cases r with
  | ok a s => exact hc a s rfl h
  | ex x s => exact fun cls dx H' F2 fp' g => h cls dx H' F2 fp' (e.trans g)
  | no => exact h
theorem Po.bind {α β : Type} {r : R α} {k : α → Sl → R β} {C : β → Sl → Prop} {C' : α → Sl → Prop} (h : Po K cA W F σ (r.bind k) C) (hc : ∀ a s, r = .ok a s → Po K cA W F σ (k a s) C → C' a s) : Po K cA W F σ r C' := by
  cases r with
  | ok a s => exact hc a s rfl h
  | ex x s => exact h
  | no => exact h
end
end NS
namespace NS
open PySem PySem.Spec PyProof.Rows L2

/-! ## 3. the text: no stars -/
def noStar : Expr → Bool
  | .Starred _ _ => false
  | _ => true
theorem starEach_cons {e : Expr} {es : List Expr} {env : Env} (h : noStar e = true) : starEach (e :: es) env = (false, eval e env) :: starEach es env := by
  cases e <;> first | rfl | exact absurd h Bool.false_ne_true
theorem starEach_plain {env : Env} : ∀ {es : List Expr}, es.all noStar = true → (starEach es env).any (·.1) = false
  | [], _ => rfl
  | e :: es, h => by
    rw [List.all_cons, Bool.and_eq_true] at h
    rw [starEach_cons h.1, List.any_cons, starEach_plain h.2]
    rfl
theorem backTo_any {pos : Pos} : ∀ {l : List (Bool × Sem Value)}, (backTo pos l).any (·.1) = l.any (·.1)
  | [] => rfl
  | (b, t) :: r => by
    show (b || (backTo pos r).any (·.1)) = (b || r.any (·.1))
    rw [backTo_any]
theorem back_plain {env : Env} {pos : Pos} {es : List Expr} (h : es.all noStar = true) : (backTo pos (starEach es env)).any (·.1) = false := by
  rw [backTo_any, starEach_plain h]
def notSlice : Expr → Bool
  | .Slice _ _ _ _ => false
  | _ => true
theorem plainIx {e : Expr} (h : notSlice e = true) : PlainIx e := by
  intro o i
  cases e <;> first | rfl | exact absurd h Bool.false_ne_true
/-- expressions whose test is their value's truth -/
def plainTest : Expr → Bool
  | .UnaryOp .Not _ _ => false
  | .BoolOp _ _ _ => false
  | .IfExp _ _ _ _ => false
  | .Compare _ _ _ _ => false
  | _ => true
theorem isTrue_eq {e : Expr} {env : Env} (h : plainTest e = true) (whole : Sem Value) : isTrue e env whole = (do let v ← whole; standAt e.pos; holding [v] (truthy v)) := by
  cases e with
  | UnaryOp op x p => cases op <;> first | rfl | exact absurd h Bool.false_ne_true
  | BoolOp _ _ _ => exact absurd h Bool.false_ne_true
  | IfExp _ _ _ _ => exact absurd h Bool.false_ne_true
  | Compare _ _ _ _ => exact absurd h Bool.false_ne_true
  | _ => rfl
def notComp : Expr → Bool
  | .ListComp _ _ _ _ => false
  | .SetComp _ _ _ _ => false
  | .DictComp _ _ _ _ _ => false
  | _ => true
theorem swaps_no {e : Expr} {t : Option Expr} {l : Nat} {env : Env} (h : notComp e = true) : swapsWith e t l env = pure false := by
  cases e <;> first | rfl | exact absurd h Bool.false_ne_true
def notSet : Expr → Bool
  | .Set _ _ _ => false
  | _ => true
theorem folded_eq {e : Expr} {env : Env} (h : notSet e = true) (x : Value) : foldedSetIterable e env x = pure x := by
  cases e <;> first | rfl | exact absurd h Bool.false_ne_true
theorem behind_no {op : CmpOp} {e : Expr} (h : notSet e = true) : behindInMarks op e = false := by
  cases e <;> first | rfl | exact absurd h Bool.false_ne_true
def notCall : Expr → Bool
  | .Call _ _ _ _ => false
  | _ => true
theorem attrBase_eq {e : Expr} {f : Str} {env : Env} (h : notCall e = true) : attributeBase e f env (eval e env) = eval e env := by
  cases e <;> first | rfl | exact absurd h Bool.false_ne_true

theorem PE_mono {X : Cx} {e : Expr} {t t' : TE} (h : PE X e t) (w : ∀ σ H Q, t' σ H Q → t σ H Q) : PE X e t' := ⟨fun pins s σ H Q I q => h.run pins s σ H Q I (w σ H Q q)⟩
theorem PT_mono {X : Cx} {e : Expr} {t t' : TT} (h : PT X e t) (w : ∀ σ H Q, t' σ H Q → t σ H Q) : PT X e t' := ⟨fun pins s σ H Q I q => h.run pins s σ H Q I (w σ H Q q)⟩
theorem PW_mono {X : Cx} {e : Expr} {t t' : TT} (h : PW X e t) (w : ∀ σ H Q, t' σ H Q → t σ H Q) : PW X e t' := ⟨fun wh pins s σ H Q I q => h.run wh pins s σ H Q I (w σ H Q q)⟩
theorem PA_mono {X : Cx} {es : List Expr} {t t' : TA} (h : PA X es t) (w : ∀ σ H Q, t' σ H Q → t σ H Q) : PA X es t' := ⟨fun pos pins s σ H Q I q => h.run pos pins s σ H Q I (w σ H Q q)⟩
theorem PS_mono {X : Cx} {st : Stmt} {t t' : TS} (h : PS X st t) (w : ∀ D σ H, t' D σ H → t D σ H) : PS X st t' := ⟨fun pins s σ H D I q => h.run pins s σ H D I (w D σ H q)⟩
theorem PSs_mono {X : Cx} {st : List Stmt} {t t' : TS} (h : PSs X st t) (w : ∀ D σ H, t' D σ H → t D σ H) : PSs X st t' := ⟨fun pins s σ H D I q => h.run pins s σ H D I (w D σ H q)⟩

/-! ## 4. combinators -/
def nameE (i : Nat) : Sl → R EV := fun s => match s[i]? with
  | some (some d) => if d.own then .ok (.al i) s else .ok (.val d) s
  | _ => .no
def constE (d : D) : Sl → R EV := fun s => .ok (.val d) s
/-- one value, pending -/
def penE {β : Type} (f : Sl → R EV) (k : EV → Sl → R β) : Sl → R β := fun s => (f s).bind fun e s1 => k e.pend s1
/-- two values -/
def bin2 {β : Type} (fa fb : Sl → R EV) (k : EV → EV → Sl → R β) : Sl → R β := penE fa fun e1 => penE fb (k e1)
def argsE : List (Sl → R EV) → Sl → R (List EV)
  | [], s => .ok [] s
  | f :: fs, s => penE f (fun e s1 => (argsE fs s1).bind fun es s2 => .ok (e :: es) s2) s
/-- all values, kept -/
def valsE (fs : List (Sl → R EV)) : Sl → R (List D) := fun s => (argsE fs s).bind fun es s1 => match evVs es s1 with
  | some (ds, s2) => .ok ds s2
  | none => .no
/-- the longest list that is made -/
def LN : Nat := 16000000
theorem LN_le : LN ≤ sizeLine := by rw [sizeLine_eq]; decide
def fits (n : Nat) : Bool := Nat.ble n LN
theorem fits_le {n : Nat} (h : fits n = true) : n ≤ LN := Nat.le_of_ble_eq_true h
def tupK (ds : List D) (s : Sl) : R EV := if fits ds.length then .ok (.val (.tup ds)) s else .no
def lstK (ds : List D) (s : Sl) : R EV := if fits ds.length then .ok (.val (.lst true ds)) s else .no
def tupE (g : Sl → R (List D)) : Sl → R EV := fun s => (g s).bind tupK
def lstE (g : Sl → R (List D)) : Sl → R EV := fun s => (g s).bind lstK
def op2K (op : D → D → Option D) (e1 e2 : EV) (s : Sl) : R EV := match evR e1 s, evR e2 s with
  | some d1, some d2 => match op d1 d2 with
    | some d => .ok (.val d) s
    | none => .no
  | _, _ => .no
def op1K (op : D → Option D) (e1 : EV) (s : Sl) : R EV := match evR e1 s with
  | some d1 => match op d1 with
    | some d => .ok (.val d) s
    | none => .no
  | _ => .no
def truD : D → Option Bool
  | .non => some false
  | .bl b => some b
  | .int i => some (i != 0)
  | .str x => if fits x.length then some ((x.length : Int) != 0) else none
  | .tup xs => some (!xs.isEmpty)
  | .lst _ xs => some (!xs.isEmpty)
  | .ro xs => some (!xs.isEmpty)
  | .dct _ _ xs => none
  | .obj _ _ _ _ => none
def truK (e : EV) (s : Sl) : R Bool := match evR e s with
  | some d => match truD d with
    | some b => .ok b s
    | none => .no
  | none => .no
def truT (f : Sl → R EV) : Sl → R Bool := penE f truK
def notT (f : Sl → R Bool) : Sl → R Bool := fun s => (f s).bind fun b s1 => .ok (!b) s1
def andT (f g : Sl → R Bool) : Sl → R Bool := fun s => (f s).bind fun b s1 => if b then g s1 else .ok false s1
def orT (f g : Sl → R Bool) : Sl → R Bool := fun s => (f s).bind fun b s1 => if b then .ok true s1 else g s1
def ifE (c : Sl → R Bool) (f g : Sl → R EV) : Sl → R EV := fun s => (c s).bind fun b s1 => if b then f s1 else g s1
/-- bools as values -/
def andE (f g : Sl → R EV) : Sl → R EV := fun s => (f s).bind fun e s1 => match e with
  | .val (.bl true) => g s1
  | .val (.bl false) => .ok (.val (.bl false)) s1
  | .val .non => .ok (.val .non) s1
  | .val (.tup (_ :: _)) => g s1
  | _ => .no
def orE (f g : Sl → R EV) : Sl → R EV := fun s => (f s).bind fun e s1 => match e with
  | .val (.bl true) => .ok (.val (.bl true)) s1
  | .val (.bl false) => g s1
  | _ => .no
def notE (f : Sl → R EV) : Sl → R EV := fun s => (f s).bind fun e s1 => match e with
  | .val (.bl b) => .ok (.val (.bl (!b))) s1
  | _ => .no

section
variable {X : Cx} {cA : Nat → Addr} {W : Gx}
abbrev SE (X : Cx) (cA : Nat → Addr) (W : Gx) (e : Expr) (f : Sl → R EV) : Prop := PE X e (tE X.K cA W f)
abbrev ST (X : Cx) (cA : Nat → Addr) (W : Gx) (e : Expr) (f : Sl → R Bool) : Prop := PT X e (tT X.K cA W f)
abbrev SW (X : Cx) (cA : Nat → Addr) (W : Gx) (e : Expr) (f : Sl → R Bool) : Prop := PW X e (tT X.K cA W f)
abbrev SA (X : Cx) (cA : Nat → Addr) (W : Gx) (es : List Expr) (f : Sl → R (List EV)) : Prop := PA X es (tA X.K cA W f)
abbrev SV (X : Cx) (cA : Nat → Addr) (W : Gx) (es : List Expr) (f : Sl → R (List D)) : Prop := PA X es (tV X.K cA W f)

variable {e a b c : Expr} {es : List Expr} {f g : Sl → R EV} {gs : Sl → R (List EV)} {pos : Pos}

theorem se_name {i : Nat} {x : Str} (hN : X.N[i]? = some x) (hv : Vis X.env.scope x) (hd : (x == ("__debug__" : Str)) = false) (hcd : (x == ("__classdict__" : Str)) = false) : SE X cA W (.Name x pos) (nameE i) := by
  refine PE_mono (pe_var hN hv hd hcd) fun σ H Q h => ?_
  obtain ⟨F, fp, s, r, p⟩ := h
  unfold nameE at p
  split at p
  · rename_i d hd
    obtain ⟨v, hv, q⟩ := r.sl i d hd
    refine ⟨v, hv, ?_⟩
    split at p
    · exact p v H F fp (Same.refl F) r ⟨⟨d, hd⟩, hv⟩
    · rename_i ho
      obtain ⟨q1, q2⟩ := Vl.of_frozen (by simpa using ho) q
      exact p v H F fp (Same.refl F) r (Ev.fro (by simpa using ho) q1)
  · exact p.elim
theorem se_const {v : V} {d : D} (h : PE X e (tC v)) (ho : d.own = false) (hr : ∀ F, RepF X.K cA F d v) : SE X cA W e (constE d) := by
  refine PE_mono h fun σ H Q h => ?_
  obtain ⟨F, fp, s, r, p⟩ := h
  exact p v H F fp (Same.refl F) r (Ev.fro ho (hr F))
theorem se_int {i : Int} {j : Nat} : SE X cA W (.Constant (.int i) j pos) (constE (.int i)) := se_const pe_int rfl fun _ => rfl
theorem se_bl {i : Bool} {j : Nat} : SE X cA W (.Constant (.bool i) j pos) (constE (.bl i)) := se_const pe_bl rfl fun _ => rfl
theorem se_non {j : Nat} : SE X cA W (.Constant .none j pos) (constE .non) := se_const pe_non rfl fun _ => rfl
theorem se_str {i : Str} {j : Nat} : SE X cA W (.Constant (.str i) j pos) (constE (.str i)) := se_const pe_str rfl fun _ => rfl

/-- one value, pending, and what comes then -/
theorem pen_run {β : Type} {k : EV → Sl → R β} {σ : L2.St} {H : Hp} {C : Hp → β → Sl → Prop} {F : Hp} {fp : Nat → List Addr} {s : Sl} (mono : ∀ F F' b s, Same F F' → C F b s → C F' b s)
    (r : Rl X.K cA F W.P W.pn fp s σ H) (p : Po X.K cA W F σ (penE f k s) (C F)) :
    tE X.K cA W f σ H fun x H1 => ∃ F1 fp1 s1 e1, Rl X.K cA F1 W.P W.pn fp1 s1 σ H1 ∧ Ep X.K cA F1 σ x e1 ∧ Same F F1 ∧ Po X.K cA W F1 σ (k e1 s1) (C F1) := by
  refine ⟨F, fp, s, r, Po.bind p fun e1 s1 _ p1 => fun x H1 F1 fp1 g1 r1 q1 => ?_⟩
  obtain ⟨F2, g2, r2, q2⟩ := q1.pend r1
  exact ⟨F2, fp1, s1, e1.pend, r2, q2, g1.trans g2, Po.up (g1.trans g2) p1 fun b s' _ z => mono _ _ _ _ (g1.trans g2) z⟩
theorem KE_mono {σ : L2.St} {Q : VK}  : ∀ F F' b s, Same F F' → KE X.K cA W F σ Q b s → KE X.K cA W F' σ Q b s := fun F F' b s g h v H' F2 fp' g2 => h v H' F2 fp' (g.trans g2)
theorem KT_mono {σ : L2.St} {Q : Bool → Hp → Prop}  : ∀ F F' b s, Same F F' → KT X.K cA W F σ Q b s → KT X.K cA W F' σ Q b s := fun F F' b s g h H' F2 fp' g2 => h H' F2 fp' (g.trans g2)
theorem KA_mono {σ : L2.St} {Q : List V → Hp → Prop}  : ∀ F F' b s, Same F F' → KA X.K cA W F σ Q b s → KA X.K cA W F' σ Q b s := fun F F' b s g h vs H' F2 fp' g2 => h vs H' F2 fp' (g.trans g2)
/-- what is known behind two values -/
def Two (X : Cx) (cA : Nat → Addr) (W : Gx) {β : Type} (k : EV → EV → Sl → R β) (C : Hp → β → Sl → Prop) (σ : L2.St) (x y : V) (H : Hp) : Prop :=
  ∃ F fp s e1 e2, Rl X.K cA F W.P W.pn fp s σ H ∧ Ep X.K cA F σ x e1 ∧ Ep X.K cA F σ y e2 ∧ Po X.K cA W F σ (k e1 e2 s) (C F)
theorem bin_run {β : Type} {k : EV → EV → Sl → R β} {σ : L2.St} {H : Hp} {C : Hp → β → Sl → Prop} (mono : ∀ F F' b s, Same F F' → C F b s → C F' b s)
    (h : ∃ F fp s, Rl X.K cA F W.P W.pn fp s σ H ∧ Po X.K cA W F σ (bin2 f g k s) (C F)) :
    tE X.K cA W f σ H fun x H1 => tE X.K cA W g σ H1 fun y H2 => Two X cA W k C σ x y H2 := by
  obtain ⟨F, fp, s, r, p⟩ := h
  have := pen_run (C := C) mono r p
  obtain ⟨F0, fp0, s0, r0, p0⟩ := this
  refine ⟨F0, fp0, s0, r0, Po.up (Same.refl _) p0 fun ev s' _ z x H1 F' fp' g' r' q' => ?_⟩
  obtain ⟨F1, fp1, s1, e1, r1, q1, g1, p1⟩ := z x H1 F' fp' g' r' q'
  have := pen_run (C := C) mono r1 p1
  obtain ⟨F2, fp2, s2, r2, p2⟩ := this
  refine ⟨F2, fp2, s2, r2, Po.up (Same.refl _) p2 fun ev s' _ z y H2 F' fp' g' r' q' => ?_⟩
  obtain ⟨F3, fp3, s3, e3, r3, q3, g3, p3⟩ := z y H2 F' fp' g' r' q'
  exact ⟨F3, fp3, s3, e1, e3, r3, q1.mono g3, q3, p3⟩
/-- what is known behind one value -/
def One (X : Cx) (cA : Nat → Addr) (W : Gx) {β : Type} (k : EV → Sl → R β) (C : Hp → β → Sl → Prop) (σ : L2.St) (x : V) (H : Hp) : Prop :=
  ∃ F fp s e1, Rl X.K cA F W.P W.pn fp s σ H ∧ Ep X.K cA F σ x e1 ∧ Po X.K cA W F σ (k e1 s) (C F)
theorem one_run {β : Type} {k : EV → Sl → R β} {σ : L2.St} {H : Hp} {C : Hp → β → Sl → Prop} (mono : ∀ F F' b s, Same F F' → C F b s → C F' b s)
    (h : ∃ F fp s, Rl X.K cA F W.P W.pn fp s σ H ∧ Po X.K cA W F σ (penE f k s) (C F)) :
    tE X.K cA W f σ H fun x H1 => One X cA W k C σ x H1 := by
  obtain ⟨F, fp, s, r, p⟩ := h
  have := pen_run (C := C) mono r p
  obtain ⟨F0, fp0, s0, r0, p0⟩ := this
  refine ⟨F0, fp0, s0, r0, Po.up (Same.refl _) p0 fun ev s' _ z x H1 F' fp' g' r' q' => ?_⟩
  obtain ⟨F1, fp1, s1, e1, r1, q1, g1, p1⟩ := z x H1 F' fp' g' r' q'
  exact ⟨F1, fp1, s1, e1, r1, q1, p1⟩

/-! ### argument lists -/
theorem sa_nil : SA X cA W [] (argsE []) := by
  refine PA_mono pa_nil fun σ H Q h => ?_
  obtain ⟨F, fp, s, r, p⟩ := h
  exact p [] H F fp (Same.refl F) r rfl
theorem sa_cons {fs : List (Sl → R EV)} (ha : SE X cA W e f) (hr : SA X cA W es (argsE fs)) (hs : noStar e = true) : SA X cA W (e :: es) (argsE (f :: fs)) := by
  refine PA_mono (pa_cons ha hr (starEach_cons hs)) fun σ H Q h => ?_
  obtain ⟨F, fp, s, r, p⟩ := h
  have z := pen_run (C := fun F => KA X.K cA W F σ Q) KA_mono r p
  obtain ⟨F0, fp0, s0, r0, p0⟩ := z
  refine ⟨F0, fp0, s0, r0, Po.up (Same.refl _) p0 fun ev s' _ z x H1 F' fp' g' r' q' => ?_⟩
  obtain ⟨F1, fp1, s1, e1, r1, q1, g1, p1⟩ := z x H1 F' fp' g' r' q'
  refine ⟨F1, fp1, s1, r1, Po.bind p1 fun es2 s2 _ p2 vs H2 F2 fp2 g2 r2 q2 => ?_⟩
  exact p2 (x :: vs) H2 F2 fp2 g2 r2 ⟨e1, es2, rfl, q1.mono g2, q2⟩
theorem sv_of {fs : List (Sl → R EV)} (ha : SA X cA W es (argsE fs)) : SV X cA W es (valsE fs) := by
  refine PA_mono ha fun σ H Q h => ?_
  obtain ⟨F, fp, s, r, p⟩ := h
  refine ⟨F, fp, s, r, Po.bind p fun es1 s1 _ p1 vs H1 F1 fp1 g1 r1 q1 => ?_⟩
  split at p1
  · rename_i ds s2 hd
    obtain ⟨F2, fp2, g2, r2, q2⟩ := Eps.evVs r1 q1 hd
    exact p1 vs H1 F2 fp2 (g1.trans g2) r2 q2
  · exact p1.elim
theorem se_tup {gv : Sl → R (List D)} {k : Nat} (h : SV X cA W es gv) : SE X cA W (.Tuple es k pos) (tupE gv) := by
  refine PE_mono (pe_tup h) fun σ H Q h => ?_
  obtain ⟨F, fp, s, r, p⟩ := h
  refine ⟨F, fp, s, r, Po.bind p fun ds s1 _ p1 vs H1 F1 fp1 g1 r1 q1 => ?_⟩
  unfold tupK at p1
  split at p1
  · rename_i hf
    have hl := q1.length
    refine ⟨Nat.le_trans (by rw [← hl]; exact fits_le hf) LN_le, fun a ha => ?_⟩
    have e1 := same_upd (Same.free r1.fz ha) (.tup vs)
    exact p1 (.ref a) _ _ fp1 (g1.trans e1) (r1.newF ha (.tup vs)) (Ev.fro rfl ⟨a, vs, rfl, .of upd_same, q1.mono e1⟩)
  · exact p1.elim
/-- a new list at a -/
theorem new_list {F H : Hp} {fp : Nat → List Addr} {s : Sl} {σ : L2.St} {a : Addr} {vs : List V} {ds : List D} (r : Rl X.K cA F W.P W.pn fp s σ H) (ha : H a = none) (q : RepFs X.K cA F ds vs) :
    Rl X.K cA F W.P W.pn fp s σ (upd H a (.lst vs)) ∧ Ev X.K cA F W.P (upd H a (.lst vs)) fp s σ (.ref a) (.val (.lst true ds)) := by
  refine ⟨r.new ha _, [a], ⟨a, vs, rfl, upd_same, q, rfl⟩, by simp, fun j b hb hj => ?_, fun b hb => ?_⟩
  · rw [List.mem_singleton.mp hb] at hj
    obtain ⟨o, z⟩ := r.there hj
    rw [ha] at z; cases z
  · rw [List.mem_singleton.mp hb]
    exact ⟨Same.free r.fz ha, Same.free r.pr ha⟩
theorem se_lst {gv : Sl → R (List D)} (h : SV X cA W es gv) : SE X cA W (.List es pos) (lstE gv) := by
  refine PE_mono (pe_lst h) fun σ H Q h => ?_
  obtain ⟨F, fp, s, r, p⟩ := h
  refine ⟨F, fp, s, r, Po.bind p fun ds s1 _ p1 vs H1 F1 fp1 g1 r1 q1 => ?_⟩
  unfold lstK at p1
  split at p1
  · rename_i hf
    have hl := q1.length
    refine ⟨Nat.le_trans (by rw [← hl]; exact fits_le hf) LN_le, fun a ha => ?_⟩
    obtain ⟨r2, q2⟩ := new_list r1 ha q1
    exact p1 (.ref a) _ _ fp1 g1 r2 q2
  · exact p1.elim

/-! ### tests -/
theorem st_val (h : SE X cA W e f) (hp : plainTest e = true) : ST X cA W e (truT f) := by
  refine PT_mono (pt_truth h (isTrue_eq hp)) fun σ H Q h => ?_
  obtain ⟨F, fp, s, r, p⟩ := one_run (C := fun F => KT X.K cA W F σ Q) KT_mono h
  refine ⟨F, fp, s, r, Po.up (Same.refl _) p fun ev s' _ z x H1 F' fp' g' r' q' => ?_⟩
  obtain ⟨F1, fp1, s1, e1, r1, q1, p1⟩ := z x H1 F' fp' g' r' q'
  unfold truK at p1
  split at p1
  · rename_i d hd
    split at p1
    · rename_i k hk
      refine ⟨k, ?_, p1 H1 F1 fp1 (Same.refl _) r1⟩
      cases d with
      | non =>
        cases (Ep.flat r1 q1 hd rfl : x = _)
        cases hk; exact rfl
      | bl b =>
        cases (Ep.flat r1 q1 hd rfl : x = _)
        cases hk; exact rfl
      | int i =>
        cases (Ep.flat r1 q1 hd rfl : x = _)
        cases hk; exact rfl
      | str z =>
        cases (Ep.flat r1 q1 hd rfl : x = _)
        simp only [truD] at hk
        split at hk
        · rename_i hf
          cases hk
          exact ⟨Nat.le_trans (fits_le hf) LN_le, rfl⟩
        · cases hk
      | tup xs =>
        obtain ⟨a, vs, rfl, h2, h3⟩ := Ep.flat r1 q1 hd rfl
        cases hk
        refine .inr (.inl ⟨vs, SqT_mono h2 r1.fz, ?_⟩)
        have hl := h3.length
        cases xs <;> cases vs <;> first | rfl | cases hl
      | ro xs =>
        obtain ⟨a, vs, rfl, h2, h3⟩ := Ep.flat r1 q1 hd rfl
        cases hk
        refine .inl ⟨vs, r1.fz.seq h2, ?_⟩
        have hl := h3.length
        cases xs <;> cases vs <;> first | rfl | cases hl
      | lst o xs =>
        obtain ⟨a, vs, rfl, h2, h3⟩ := Ep.list r1 q1 hd
        cases hk
        refine .inl ⟨vs, .of h2, ?_⟩
        have hl := h3.length
        cases xs <;> cases vs <;> first | rfl | cases hl
      | dct o ks xs =>
        cases hk
      | obj o c ks xs => cases hk
    · exact p1.elim
  · exact p1.elim
theorem st_not {tf : Sl → R Bool} (h : ST X cA W e tf) : ST X cA W (.UnaryOp .Not e pos) (notT tf) := by
  refine PT_mono (pt_not h) fun σ H Q h => ?_
  obtain ⟨F, fp, s, r, p⟩ := h
  exact ⟨F, fp, s, r, Po.bind p fun b s1 _ p1 H1 F1 fp1 g1 r1 => p1 H1 F1 fp1 g1 r1⟩
theorem sw_and {tf tg : Sl → R Bool} {rest : List Expr} (ha : ST X cA W a tf) (hb : SW X cA W (.BoolOp .And (b :: rest) pos) tg) : SW X cA W (.BoolOp .And (a :: b :: rest) pos) (andT tf tg) := by
  refine PW_mono (pw_and ha hb) fun σ H Q h => ?_
  obtain ⟨F, fp, s, r, p⟩ := h
  refine ⟨F, fp, s, r, Po.bind p fun c s1 _ p1 H1 F1 fp1 g1 r1 => ?_⟩
  cases c with
  | true => exact iteT ⟨F1, fp1, s1, r1, Po.up g1 p1 fun b s' _ z => KT_mono _ _ _ _ g1 z⟩
  | false => exact iteF (p1 H1 F1 fp1 g1 r1)
theorem sw_or {tf tg : Sl → R Bool} {rest : List Expr} (ha : ST X cA W a tf) (hb : SW X cA W (.BoolOp .Or (b :: rest) pos) tg) : SW X cA W (.BoolOp .Or (a :: b :: rest) pos) (orT tf tg) := by
  refine PW_mono (pw_or ha hb) fun σ H Q h => ?_
  obtain ⟨F, fp, s, r, p⟩ := h
  refine ⟨F, fp, s, r, Po.bind p fun c s1 _ p1 H1 F1 fp1 g1 r1 => ?_⟩
  cases c with
  | true => exact iteT (p1 H1 F1 fp1 g1 r1)
  | false => exact iteF ⟨F1, fp1, s1, r1, Po.up g1 p1 fun b s' _ z => KT_mono _ _ _ _ g1 z⟩
theorem se_if {tc : Sl → R Bool} (hc : ST X cA W c tc) (ha : SE X cA W a f) (hb : SE X cA W b g) : SE X cA W (.IfExp c a b pos) (ifE tc f g) := by
  refine PE_mono (pe_ifExp hc ha hb) fun σ H Q h => ?_
  obtain ⟨F, fp, s, r, p⟩ := h
  refine ⟨F, fp, s, r, Po.bind p fun c s1 _ p1 H1 F1 fp1 g1 r1 => ?_⟩
  cases c with
  | true => exact iteT ⟨F1, fp1, s1, r1, Po.up g1 p1 fun b s' _ z => KE_mono _ _ _ _ g1 z⟩
  | false => exact iteF ⟨F1, fp1, s1, r1, Po.up g1 p1 fun b s' _ z => KE_mono _ _ _ _ g1 z⟩
theorem Ev.bl {F H : Hp} {fp : Nat → List Addr} {s : Sl} {σ : L2.St} {v : V} {b : Bool} (h : Ev X.K cA F W.P H fp s σ v (.val (.bl b))) : v = .bl b := by
  obtain ⟨l, q, _⟩ := h
  exact q.1
theorem se_and {rest : List Expr} (ha : SE X cA W a f) (hb : SE X cA W (.BoolOp .And (b :: rest) pos) g) : SE X cA W (.BoolOp .And (a :: b :: rest) pos) (andE f g) := by
  refine PE_mono (pe_andT ha hb) fun σ H Q h => ?_
  obtain ⟨F, fp, s, r, p⟩ := h
  refine ⟨F, fp, s, r, Po.bind p fun c s1 _ p1 v H1 F1 fp1 g1 r1 q1 => ?_⟩
  split at p1
  · cases Ev.bl q1
    exact ⟨true, rfl, iteT ⟨F1, fp1, s1, r1, Po.up g1 p1 fun b s' _ z => KE_mono _ _ _ _ g1 z⟩⟩
  · cases Ev.bl q1
    exact ⟨false, rfl, iteF (p1 _ H1 F1 fp1 g1 r1 (Ev.fro rfl rfl))⟩
  · obtain ⟨l, q, _⟩ := q1
    have e : v = .non := q.1
    subst e
    exact ⟨false, rfl, iteF (p1 _ H1 F1 fp1 g1 r1 (Ev.fro rfl rfl))⟩
  · rename_i x xs
    obtain ⟨l, q, _⟩ := q1
    obtain ⟨a, vs, rfl, m, n⟩ := q.1
    obtain ⟨v0, vs0, rfl, _, _⟩ := n
    exact ⟨true, .inr (.inl ⟨_, SqT_mono m r1.fz, rfl⟩), iteT ⟨F1, fp1, s1, r1, Po.up g1 p1 fun b s' _ z => KE_mono _ _ _ _ g1 z⟩⟩
  · exact p1.elim
theorem se_or {rest : List Expr} (ha : SE X cA W a f) (hb : SE X cA W (.BoolOp .Or (b :: rest) pos) g) : SE X cA W (.BoolOp .Or (a :: b :: rest) pos) (orE f g) := by
  refine PE_mono (pe_or ha hb) fun σ H Q h => ?_
  obtain ⟨F, fp, s, r, p⟩ := h
  refine ⟨F, fp, s, r, Po.bind p fun c s1 _ p1 v H1 F1 fp1 g1 r1 q1 => ?_⟩
  split at p1
  · cases Ev.bl q1
    exact ⟨true, rfl, iteT (p1 _ H1 F1 fp1 g1 r1 (Ev.fro rfl rfl))⟩
  · cases Ev.bl q1
    exact ⟨false, rfl, iteF ⟨F1, fp1, s1, r1, Po.up g1 p1 fun b s' _ z => KE_mono _ _ _ _ g1 z⟩⟩
  · exact p1.elim
theorem se_not (ha : SE X cA W a f) : SE X cA W (.UnaryOp .Not a pos) (notE f) := by
  refine PE_mono (pe_not ha) fun σ H Q h => ?_
  obtain ⟨F, fp, s, r, p⟩ := h
  refine ⟨F, fp, s, r, Po.bind p fun c s1 _ p1 v H1 F1 fp1 g1 r1 q1 => ?_⟩
  split at p1
  · cases Ev.bl q1
    exact ⟨_, rfl, p1 _ H1 F1 fp1 g1 r1 (Ev.fro rfl rfl)⟩
  · exact p1.elim
end
end NS
namespace NS
open PySem PySem.Spec PyProof.Rows L2

/-! ## dicts: what stands in them -/
def keyD : Key → D
  | .inl i => .int i
  | .inr x => .str x
def D.key : D → Option Key
  | .int i => some (.inl i)
  | .str x => some (.inr x)
  | _ => none
def dgetD : List Key → List D → Key → Option D
  | k' :: ks, x :: xs, k => if k' = k then some x else dgetD ks xs k
  | _, _, _ => none
/-- d[k] = x -/
def dputD (ks : List Key) (xs : List D) (k : Key) (d : D) : List Key × List D :=
  if (dgetD ks xs k).isSome then (ks, List.zipWith (fun k' x => if k' = k then d else x) ks xs) else (ks ++ [k], xs ++ [d])
def dmerge : List Key × List D → List (Key × D) → List Key × List D
  | p, [] => p
  | p, (k, d) :: r => dmerge (dputD p.1 p.2 k d) r
theorem keyD_own (k : Key) : (keyD k).own = false := by cases k <;> rfl
section
variable {K : PySem.W.Frag} {cA : Nat → Addr} {F : Hp}
theorem keyD_rep (k : Key) : RepF K cA F (keyD k) (kV k) := by cases k <;> rfl
theorem key_kV {d : D} {k : Key} {v : V} (h : d.key = some k) (q : RepF K cA F d v) : v = kV k := by
  cases d <;> simp only [D.key, reduceCtorEq, Option.some.injEq] at h
  · subst h; exact q
  · subst h; exact q
theorem dget_ok {k : Key} : ∀ {ks : List Key} {xs : List D} {vs : List V}, ks.length = vs.length → RepFs K cA F xs vs →
    (∀ d, dgetD ks xs k = some d → ∃ v, valV (ks.zip vs) k = some v ∧ RepF K cA F d v) ∧ (dgetD ks xs k = none → valV (ks.zip vs) k = none)
  | [], xs, vs, _, _ => ⟨fun d h => (by unfold dgetD at h; cases h), fun _ => valV_nil⟩
  | k' :: ks, [], vs, hl, q => by
    cases (show vs = [] from q)
    cases hl
  | k' :: ks, x :: xs, vs, hl, q => by
    obtain ⟨v, r, rfl, q1, q2⟩ := q
    obtain ⟨h1, h2⟩ := dget_ok (k := k) (ks := ks) (by simpa using hl) q2
    by_cases e : k' = k
    · refine ⟨fun d h => ?_, fun h => ?_⟩
      · rw [dgetD, if_pos e] at h
        cases h
        exact ⟨v, valV_pos (p := (k', v)) e, q1⟩
      · rw [dgetD, if_pos e] at h
        cases h
    · refine ⟨fun d h => ?_, fun h => ?_⟩
      · rw [dgetD, if_neg e] at h
        obtain ⟨u, e1, e2⟩ := h1 d h
        exact ⟨u, by rw [List.zip_cons_cons, valV_neg (p := (k', v)) e]; exact e1, e2⟩
      · rw [dgetD, if_neg e] at h
        rw [List.zip_cons_cons, valV_neg (p := (k', v)) e]
        exact h2 h
theorem zipW_rep {k : Key} {d : D} {v : V} (qd : RepF K cA F d v) : ∀ {ks : List Key} {xs : List D} {vs : List V}, ks.length = vs.length → RepFs K cA F xs vs →
    ∃ us, (ks.zip vs).map (fun kv => if kv.1 = k then (kv.1, v) else kv) = ks.zip us ∧ ks.length = us.length ∧ RepFs K cA F (List.zipWith (fun k' x => if k' = k then d else x) ks xs) us
  | [], xs, vs, hl, q => ⟨[], rfl, rfl, rfl⟩
  | k' :: ks, [], vs, hl, q => by
    cases (show vs = [] from q)
    cases hl
  | k' :: ks, x :: xs, vs, hl, q => by
    obtain ⟨w, r, rfl, q1, q2⟩ := q
    obtain ⟨us, e1, e2, e3⟩ := zipW_rep (k := k) qd (ks := ks) (by simpa using hl) q2
    by_cases e : k' = k
    · refine ⟨v :: us, ?_, by simp [e2], v, us, rfl, ?_, e3⟩
      · rw [List.zip_cons_cons, List.map_cons, e1, List.zip_cons_cons, if_pos e]
      · show RepF K cA F (if k' = k then d else x) v
        rw [if_pos e]; exact qd
    · refine ⟨w :: us, ?_, by simp [e2], w, us, rfl, ?_, e3⟩
      · rw [List.zip_cons_cons, List.map_cons, e1, List.zip_cons_cons, if_neg e]
      · show RepF K cA F (if k' = k then d else x) w
        rw [if_neg e]; exact q1
theorem dput_ok {k : Key} {d : D} {v : V} {ks : List Key} {xs : List D} {vs : List V} (qd : RepF K cA F d v) (hl : ks.length = vs.length) (q : RepFs K cA F xs vs) :
    ∃ us, putK (ks.zip vs) k v = (dputD ks xs k d).1.zip us ∧ (dputD ks xs k d).1.length = us.length ∧ RepFs K cA F (dputD ks xs k d).2 us := by
  obtain ⟨h1, h2⟩ := dget_ok (k := k) hl q
  unfold dputD
  cases e : dgetD ks xs k with
  | none =>
    rw [putK_new v (h2 e)]
    refine ⟨vs ++ [v], ?_, by simp [hl], q.append (RepFs.one qd)⟩
    show ks.zip vs ++ [(k, v)] = (ks ++ [k]).zip (vs ++ [v])
    rw [List.zip_append hl]
    rfl
  | some x =>
    obtain ⟨u, e1, _⟩ := h1 x e
    obtain ⟨us, e2, e3, e4⟩ := zipW_rep (k := k) qd hl q
    refine ⟨us, ?_, e3, e4⟩
    show putK (ks.zip vs) k v = ks.zip us
    rw [← e2]
    unfold putK
    have hany : ((ks.zip vs).any fun kv => decide (kv.1 = k)) = true := by rw [valV_any, e1]; rfl
    simp only [hany, if_true]
theorem dmerge_ok : ∀ {r : List (Key × D)} {ws : List V} {ks : List Key} {xs : List D} {vs : List V}, RepFs K cA F (r.map (·.2)) ws → ks.length = vs.length → RepFs K cA F xs vs →
    ∃ us, mergeK (ks.zip vs) ((r.map (·.1)).zip ws) = (dmerge (ks, xs) r).1.zip us ∧ (dmerge (ks, xs) r).1.length = us.length ∧ RepFs K cA F (dmerge (ks, xs) r).2 us
  | [], ws, ks, xs, vs, hr, hl, q => ⟨vs, rfl, hl, q⟩
  | (k, d) :: r, ws, ks, xs, vs, hr, hl, q => by
    obtain ⟨w, wr, rfl, h1, h2⟩ := hr
    obtain ⟨us, e1, e2, e3⟩ := dput_ok (k := k) h1 hl q
    obtain ⟨us2, e4, e5, e6⟩ := dmerge_ok (r := r) h2 e2 e3
    refine ⟨us2, ?_, e5, e6⟩
    show mergeK (putK (ks.zip vs) k w) _ = _
    rw [e1]
    exact e4
end
/-! ## a dict locked -/
section
variable {K : PySem.W.Frag} {cA : Nat → Addr} {F F' H H' : Hp}
def isDK : HO → Bool
  | .dK _ => true
  | .frz _ (.dK _) => true
  | _ => false
def dkOf : HO → List (Key × V)
  | .dK kvs => kvs
  | .frz _ (.dK kvs) => kvs
  | _ => []
/-- the same, but for the lock of dicts -/
def Lk (F F' : Hp) : Prop := ∀ a o, F a = some o → F' a = some o ∨ ∃ o', F' a = some o' ∧ isDK o = true ∧ isDK o' = true ∧ dkOf o' = dkOf o
theorem Lk.rd (l : Lk F F') {a : Addr} {u : HO} (h : Rd F a u) (hn : isDK u = false) : Rd F' a u := by
  rcases h with h | ⟨o, h⟩
  · rcases l _ _ h with z | ⟨o', z, e, _⟩
    · exact .inl z
    · rw [hn] at e; cases e
  · rcases l _ _ h with z | ⟨o', z, e, _⟩
    · exact .inr ⟨o, z⟩
    · cases u <;> first | (cases e; done) | (cases hn; done)
theorem Lk.rdk (l : Lk F F') {a : Addr} {kvs : List (Key × V)} (h : Rd F a (.dK kvs)) : Rd F' a (.dK kvs) := by
  have key : ∀ o', isDK o' = true → dkOf o' = kvs → F' a = some o' → Rd F' a (.dK kvs) := by
    intro o' h1 h2 h3
    cases o' <;> first | cases h1 | skip
    · cases h2; exact .inl h3
    · rename_i o u
      cases u <;> first | cases h1 | skip
      cases h2; exact .inr ⟨o, h3⟩
  rcases h with h | ⟨o, h⟩
  · rcases l _ _ h with z | ⟨o', z, _, e2, e3⟩
    · exact .inl z
    · exact key o' e2 e3 z
  · rcases l _ _ h with z | ⟨o', z, _, e2, e3⟩
    · exact .inr ⟨o, z⟩
    · exact key o' e2 e3 z
mutual
theorem RepF.lk (l : Lk F F') : ∀ (d : D) (v : V), RepF K cA F d v → RepF K cA F' d v
  | .non, v, h => h
  | .bl _, v, h => h
  | .int _, v, h => h
  | .str _, v, h => h
  | .tup xs, v, h => by
    obtain ⟨a, vs, h1, h2, h3⟩ := h
    exact ⟨a, vs, h1, h2.elim (fun z => .inl (l.rd z rfl)) .inr, RepFs.lk l xs vs h3⟩
  | .lst _ xs, v, h => by
    obtain ⟨a, vs, h1, h2, h3⟩ := h
    refine ⟨a, vs, h1, ?_, RepFs.lk l xs vs h3⟩
    rcases l _ _ h2 with z | ⟨o', _, e, _⟩
    · exact z
    · cases e
  | .ro xs, v, h => by
    obtain ⟨a, vs, h1, h2, h3⟩ := h
    exact ⟨a, vs, h1, h2.elim (fun z => .inl (l.rd z rfl)) .inr, RepFs.lk l xs vs h3⟩
  | .dct _ ks xs, v, h => by
    obtain ⟨a, vs, h1, h2, hl, h3⟩ := h
    exact ⟨a, vs, h1, l.rdk h2, hl, RepFs.lk l xs vs h3⟩
  | .obj _ c ks xs, v, h => by
    obtain ⟨a, dx, vs, h1, h2, hl, h3⟩ := h
    refine ⟨a, dx, vs, h1, ?_, hl, RepFs.lk l xs vs h3⟩
    rcases l _ _ h2 with z | ⟨o', _, e, _⟩
    · exact z
    · cases e
theorem RepFs.lk (l : Lk F F') : ∀ (ds : List D) (vs : List V), RepFs K cA F ds vs → RepFs K cA F' ds vs
  | [], vs, h => h
  | d :: ds, vs, h => by
    obtain ⟨v, r, h1, h2, h3⟩ := h
    exact ⟨v, r, h1, RepF.lk l d v h2, RepFs.lk l ds r h3⟩
end
mutual
theorem Vl.lk (e : Lk F F') : ∀ (d : D) (v : V) (l : List Addr), Vl K cA F H d v l → (∀ a ∈ l, H' a = H a) → Vl K cA F' H' d v l
  | .lst true xs, v, l, h, q => by
    obtain ⟨a, vs, h1, h2, h3, rfl⟩ := h
    exact ⟨a, vs, h1, by rw [q a (by simp)]; exact h2, RepFs.lk e _ _ h3, rfl⟩
  | .dct true ks xs, v, l, h, q => by
    obtain ⟨a, vs, h1, h2, hl, h3, rfl⟩ := h
    exact ⟨a, vs, h1, by rw [q a (by simp)]; exact h2, hl, RepFs.lk e _ _ h3, rfl⟩
  | .obj true c ks xs, v, l, h, q => by
    obtain ⟨a, dx, vs, ls, h1, h2, hl, h3, rfl⟩ := h
    exact ⟨a, dx, vs, ls, h1, by rw [q a (by simp)]; exact h2, hl, Vls.lk e xs vs ls h3 (fun b hb => q b (List.mem_cons_of_mem _ hb)), rfl⟩
  | .non, v, l, h, q => ⟨h.1, h.2⟩
  | .bl _, v, l, h, q => ⟨h.1, h.2⟩
  | .int _, v, l, h, q => ⟨h.1, h.2⟩
  | .str _, v, l, h, q => ⟨h.1, h.2⟩
  | .tup xs, v, l, h, q => ⟨RepF.lk e _ _ h.1, h.2⟩
  | .ro xs, v, l, h, q => ⟨RepF.lk e _ _ h.1, h.2⟩
  | .lst false xs, v, l, h, q => ⟨RepF.lk e _ _ h.1, h.2⟩
  | .dct false ks xs, v, l, h, q => ⟨RepF.lk e _ _ h.1, h.2⟩
  | .obj false c ks xs, v, l, h, q => ⟨RepF.lk e _ _ h.1, h.2⟩
theorem Vls.lk (e : Lk F F') : ∀ (ds : List D) (vs : List V) (l : List Addr), Vls K cA F H ds vs l → (∀ a ∈ l, H' a = H a) → Vls K cA F' H' ds vs l
  | [], vs, l, h, q => h
  | d :: ds, vs, l, h, q => by
    obtain ⟨v, r, l1, l2, h1, h2, h3, rfl⟩ := h
    exact ⟨v, r, l1, l2, h1, Vl.lk e d v l1 h2 (fun b hb => q b (List.mem_append_left _ hb)), Vls.lk e ds r l2 h3 (fun b hb => q b (List.mem_append_right _ hb)), rfl⟩
end
theorem lk_upd {a : Addr} {o o' : HO} (h : F a = some o) (h1 : isDK o = true) (h2 : isDK o' = true) (h3 : dkOf o' = dkOf o) : Lk F (upd F a o') := fun b u e => by
  by_cases hb : b = a
  · subst hb
    rw [h] at e
    cases e
    exact .inr ⟨o', upd_same, h1, h2, h3⟩
  · exact .inl (by rw [upd_ne hb]; exact e)
theorem Rl.lk {P : Hp} {pn : Nat → Option V} {fp : Nat → List Addr} {s : Sl} {σ : L2.St} {a : Addr} {o o' : HO} (r : Rl K cA F P pn fp s σ H) (h : F a = some o) (h1 : isDK o = true) (h2 : isDK o' = true) (h3 : dkOf o' = dkOf o) : Rl K cA (upd F a o') P pn fp s σ (upd H a o') := by
  have nf : ∀ i b, b ∈ fp i → b ≠ a := fun i b hb z => by
    have := (r.fr i b hb).1
    rw [z, h] at this; cases this
  have np : ∀ b u, P b = some u → b ≠ a := fun b u e z => by
    have := r.fd b u e
    rw [z, h] at this; cases this
  refine ⟨r.len, fun b u e => ?_, fun b u e => ?_, fun i d e => ?_, r.nl, r.nd, r.dj, fun i b hb => ⟨?_, (r.fr i b hb).2⟩, r.pn, fun b u e => ?_⟩
  · by_cases hb : b = a
    · subst hb; rw [upd_same] at e ⊢; exact e
    · rw [upd_ne hb] at e ⊢; exact r.fz b u e
  · rw [upd_ne (np b u e)]; exact r.pr b u e
  · obtain ⟨v, e1, q⟩ := r.sl i d e
    exact ⟨v, e1, Vl.lk (lk_upd h h1 h2 h3) d v _ q fun b hb => upd_ne (nf i b hb)⟩
  · rw [upd_ne (nf i b hb)]; exact (r.fr i b hb).1
  · rw [upd_ne (np b u e)]; exact r.fd b u e
theorem Ev.lk {P : Hp} {fp : Nat → List Addr} {s : Sl} {σ : L2.St} {v : V} {ev : EV} {a : Addr} {o o' : HO} (q : Ev K cA F P H fp s σ v ev) (h : F a = some o) (h1 : isDK o = true) (h2 : isDK o' = true) (h3 : dkOf o' = dkOf o) : Ev K cA (upd F a o') P (upd H a o') fp s σ v ev := by
  cases ev with
  | al i => exact q
  | val d =>
    obtain ⟨l, w, nd, dj, fr⟩ := q
    have nf : ∀ b ∈ l, b ≠ a := fun b hb z => by
      have := (fr b hb).1
      rw [z, h] at this; cases this
    exact ⟨l, Vl.lk (lk_upd h h1 h2 h3) d v l w fun b hb => upd_ne (nf b hb), nd, dj, fun b hb => ⟨by rw [upd_ne (nf b hb)]; exact (fr b hb).1, (fr b hb).2⟩⟩
end
end NS
namespace NS
open PySem PySem.Spec PyProof.Rows L2

/-! ## 5. operators on data -/
mutual
def D.py : D → Option PyData
  | .non => some .none
  | .bl b => some (.bool b)
  | .int i => some (.int i)
  | .str x => some (.str x)
  | .tup xs => (D.pys xs).map .tuple
  | .lst _ xs => (D.pys xs).map .list
  | .ro xs => (D.pys xs).map .list
  | .dct _ _ _ => none
  | .obj _ _ _ _ => none
def D.pys : List D → Option (List PyData)
  | [] => some []
  | d :: ds => (D.py d).bind fun p => (D.pys ds).bind fun ps => some (p :: ps)
end
section
variable {K : PySem.W.Frag} {cA : Nat → Addr} {F H : Hp}
mutual
theorem RepF.dp (e : Same F H) : ∀ (d : D) (v : V) (p : PyData), RepF K cA F d v → d.py = some p → Dp K H v p
  | .non, v, p, h, q => by cases (show v = _ from h); cases q; exact .non
  | .bl b, v, p, h, q => by cases (show v = _ from h); cases q; exact .bl b
  | .int i, v, p, h, q => by cases (show v = _ from h); cases q; exact .int i
  | .str x, v, p, h, q => by cases (show v = _ from h); cases q; exact .str x
  | .tup xs, v, p, h, q => by
    obtain ⟨a, vs, rfl, h2, h3⟩ := h
    obtain ⟨ps, q1, rfl⟩ := Option.map_eq_some_iff.mp q
    exact .tup (SqT_mono h2 e) (RepFs.dps e xs vs ps h3 q1)
  | .lst o xs, v, p, h, q => by
    obtain ⟨a, vs, rfl, h2, h3⟩ := h
    obtain ⟨ps, q1, rfl⟩ := Option.map_eq_some_iff.mp q
    exact .lst (.of (e _ _ h2)) (RepFs.dps e xs vs ps h3 q1)
  | .ro xs, v, p, h, q => by
    obtain ⟨a, vs, rfl, h2, h3⟩ := h
    obtain ⟨ps, q1, rfl⟩ := Option.map_eq_some_iff.mp q
    exact .lst (e.seq h2) (RepFs.dps e xs vs ps h3 q1)
  | .dct _ _ _, v, p, h, q => by cases q
  | .obj _ _ _ _, v, p, h, q => by cases q
theorem RepFs.dps (e : Same F H) : ∀ (ds : List D) (vs : List V) (ps : List PyData), RepFs K cA F ds vs → D.pys ds = some ps → DpAll K H vs ps
  | [], vs, ps, h, q => by
    cases (show vs = [] from h)
    cases q
    exact .nil
  | d :: ds, vs, ps, h, q => by
    obtain ⟨v, r, rfl, h2, h3⟩ := h
    obtain ⟨p, q1, q2⟩ := Option.bind_eq_some_iff.mp q
    obtain ⟨ps', q3, q4⟩ := Option.bind_eq_some_iff.mp q2
    cases q4
    exact .cons (RepF.dp e d v p h2 q1) (RepFs.dps e ds r ps' h3 q3)
end
variable {W : Gx} {fp : Nat → List Addr} {s : Sl} {σ : L2.St}
theorem Ep.dp {v : V} {ev : EV} {d : D} {p : PyData} (r : Rl K cA F W.P W.pn fp s σ H) (h : Ep K cA F σ v ev) (e : evR ev s = some d) (q : d.py = some p) : Dp K H v p := by
  cases d with
  | lst o xs =>
    obtain ⟨a, vs, rfl, h2, h3⟩ := Ep.list r h e
    obtain ⟨ps, q1, rfl⟩ := Option.map_eq_some_iff.mp q
    exact .lst (.of h2) (RepFs.dps r.fz xs vs ps h3 q1)
  | dct _ _ _ => cases q
  | obj _ _ _ _ => cases q
  | _ => exact RepF.dp r.fz _ v p (Ep.flat r h e rfl) q
end

mutual
theorem py_plain : ∀ (d : D) (p : PyData), d.py = some p → p.plain = true
  | .non, p, h => by cases h; rfl
  | .bl b, p, h => by cases h; rfl
  | .int i, p, h => by cases h; rfl
  | .str x, p, h => by cases h; rfl
  | .tup xs, p, h => by
    simp only [D.py, Option.map_eq_some_iff] at h
    obtain ⟨ps, h1, rfl⟩ := h
    exact pys_plain xs ps h1
  | .lst _ xs, p, h => by
    simp only [D.py, Option.map_eq_some_iff] at h
    obtain ⟨ps, h1, rfl⟩ := h
    exact pys_plain xs ps h1
  | .ro xs, p, h => by
    simp only [D.py, Option.map_eq_some_iff] at h
    obtain ⟨ps, h1, rfl⟩ := h
    exact pys_plain xs ps h1
  | .dct _ _ _, p, h => by simp [D.py] at h
  | .obj _ _ _ _, p, h => by simp [D.py] at h
theorem pys_plain : ∀ (ds : List D) (ps : List PyData), D.pys ds = some ps → PyData.plainAll ps = true
  | [], ps, h => by cases h; rfl
  | d :: ds, ps, h => by
    simp only [D.pys, Option.bind_eq_some_iff] at h
    obtain ⟨p, h1, qs, h2, h3⟩ := h
    cases h3
    show (p.plain && PyData.plainAll qs) = true
    rw [py_plain d p h1, pys_plain ds qs h2]
    rfl
end
/-- == of data -/
def eqD : D → D → Option Bool
  | .int a, .int b => some (decide (a = b))
  | .str a, .str b => some (decide (a = b))
  | .bl a, .bl b => some (decide (a = b))
  | d1, d2 => match d1.py, d2.py with
    | some p, some q => if Nat.ble (min p.depth q.depth) 128 then some (PyData.eqv p q) else none
    | _, _ => none
/-- scalars -/
def D.sc : D → Bool
  | .non => true
  | .bl _ => true
  | .int _ => true
  | .str _ => true
  | _ => false
def eqS : D → D → Bool
  | .non, .non => true
  | .bl a, .bl b => a == b
  | .bl a, .int b => (if a then 1 else 0) == b
  | .int a, .bl b => a == (if b then 1 else 0)
  | .int a, .int b => a == b
  | .str a, .str b => a == b
  | _, _ => false
def inL (d : D) (xs : List D) : Option Bool :=
  if d.sc && xs.all D.sc then some (xs.any fun y => eqS y d)
  else match d.py, D.pys xs with
    | some p, some qs => if Nat.ble (min (PyData.depthAll qs) p.depth) 128 then some (qs.any fun z => PyData.eqv z p) else none
    | _, _ => none
def inD (d : D) : D → Option Bool
  | .dct _ ks xs => d.key.map fun k => (dgetD ks xs k).isSome
  | .tup xs => inL d xs
  | .lst _ xs => inL d xs
  | .ro xs => inL d xs
  | .str z => match d with
    | .str x => match x.cps.toList with
      | [c] => some (decide (c ∈ z.cps.toList))
      | _ => none
    | _ => none
  | _ => none
def mulOk (i j : Int) : Bool := (decide (-(2 ^ 64) < j) && decide (j < 2 ^ 64)) || (decide (-(2 ^ 64) < i) && decide (i < 2 ^ 64))
def addD : D → D → Option D
  | .int a, .int b => some (.int (a + b))
  | .str a, .str b => if fits (a.length + b.length) then some (.str (a ++ b)) else none
  | .lst _ xs, .lst _ ys => if fits (xs.length + ys.length) then some (.lst true (xs ++ ys)) else none
  | .tup xs, .tup ys => if fits (xs.length + ys.length) then some (.tup (xs ++ ys)) else none
  | _, _ => none
def subD : D → D → Option D
  | .int a, .int b => some (.int (a - b))
  | _, _ => none
def mulD : D → D → Option D
  | .int a, .int b => if mulOk a b then some (.int (a * b)) else none
  | .lst _ xs, .int k => if decide (0 ≤ k) && decide (k ≤ 1000000) && fits (xs.length * k.toNat) then some (.lst true (List.replicate k.toNat xs).flatten) else none
  | _, _ => none
def modD : D → D → Option D
  | .int a, .int b => if decide (0 < b) then some (.int (a % b)) else none
  | _, _ => none
def divD : D → D → Option D
  | .int a, .int b => if decide (0 < b) && decide (b < 1073741824) then some (.int (a / b)) else none
  | _, _ => none
def powD : D → D → Option D
  | .int a, .int b => if decide (0 ≤ b) && decide (b ≤ 1000) && decide (a.natAbs < 2 ^ 64) then some (.int (a ^ b.toNat)) else none
  | _, _ => none
def binD : Operator → D → D → Option D
  | .Add => addD
  | .Sub => subD
  | .Mult => mulD
  | .Mod => modD
  | .FloorDiv => divD
  | .Pow => powD
  | _ => fun _ _ => none
def ordD (p : Int → Int → Bool) : D → D → Option Bool
  | .int a, .int b => some (p a b)
  | _, _ => none
/-- ≤ of numbers, of texts -/
def leD : D → D → Option Bool
  | .int a, .int b => some (decide (a ≤ b))
  | .str a, .str b => some (!decide (b.cps.toList < a.cps.toList))
  | _, _ => none
def D.isNon : D → Bool
  | .non => true
  | _ => false
def isN : D → D → Option Bool
  | d, .non => some d.isNon
  | _, _ => none
def cmpB : CmpOp → D → D → Option Bool
  | .Eq => eqD
  | .NotEq => fun a b => (eqD a b).map (!·)
  | .Lt => ordD fun a b => decide (a < b)
  | .LtE => leD
  | .Gt => ordD fun a b => decide (b < a)
  | .GtE => ordD fun a b => decide (b ≤ a)
  | .In => inD
  | .NotIn => fun a b => (inD a b).map (!·)
  | .Is => isN
  | .IsNot => fun a b => (isN a b).map (!·)
def cmpD (o : CmpOp) (a b : D) : Option D := (cmpB o a b).map .bl

section
variable {X : Cx} {cA : Nat → Addr} {W : Gx} {e a b c : Expr} {f g : Sl → R EV} {pos : Pos}

/-- an operator's rule r serves op -/
def OpOk (X : Cx) (cA : Nat → Addr) (W : Gx) (op : D → D → Option D) (r : R2) : Prop :=
  ∀ (F : Hp) (fp : Nat → List Addr) (s : Sl) (σ : L2.St) (H : Hp) (e1 e2 : EV) (d1 d2 d : D) (x y : V) (Q : VK), Rl X.K cA F W.P W.pn fp s σ H → Ep X.K cA F σ x e1 → Ep X.K cA F σ y e2 → evR e1 s = some d1 → evR e2 s = some d2 → op d1 d2 = some d →
    KE X.K cA W F σ Q (.val d) s → r x y H Q
theorem Ke.fin {F H : Hp} {fp : Nat → List Addr} {s : Sl} {σ : L2.St} {Q : VK} {d : D} {v : V} (k : KE X.K cA W F σ Q (.val d) s) (r : Rl X.K cA F W.P W.pn fp s σ H) (ho : d.own = false) (q : RepF X.K cA F d v) : Q v H :=
  k v H F fp (Same.refl F) r (Ev.fro ho q)
theorem two_op {op : D → D → Option D} {r : R2} (ho : OpOk X cA W op r) {σ : L2.St} {H : Hp} {x y : V} {Q : VK} (h : Two X cA W (op2K op) (fun F => KE X.K cA W F σ Q) σ x y H) : r x y H Q := by
  obtain ⟨F, fp, s, e1, e2, rl, q1, q2, p⟩ := h
  unfold op2K at p
  split at p
  · rename_i d1 d2 h1 h2
    split at p
    · rename_i d hd
      exact ho F fp s σ H e1 e2 d1 d2 d x y Q rl q1 q2 h1 h2 hd p
    · exact p.elim
  · exact p.elim
theorem se_op2 {op : D → D → Option D} {o : Operator} {r : R2} (hr : OpR X (binaryOp o) r) (ho : OpOk X cA W op r) (ha : SE X cA W a f) (hb : SE X cA W b g) : SE X cA W (.BinOp a o b pos) (bin2 f g (op2K op)) := by
  refine PE_mono (pe_op hr ha hb) fun σ H Q h => ?_
  have z := bin_run (C := fun F => KE X.K cA W F σ Q) KE_mono h
  obtain ⟨F, fp, s, rl, p⟩ := z
  refine ⟨F, fp, s, rl, Po.up (Same.refl _) p fun ev s' _ z x H1 F' fp' g' r' q' => ?_⟩
  obtain ⟨F2, fp2, s2, r2, p2⟩ := z x H1 F' fp' g' r' q'
  exact ⟨F2, fp2, s2, r2, Po.up (Same.refl _) p2 fun ev s' _ z y H2 F' fp' g' r' q' => two_op ho (z y H2 F' fp' g' r' q')⟩
theorem int_of {F H : Hp} {fp : Nat → List Addr} {s : Sl} {σ : L2.St} {v : V} {ev : EV} {i : Int} (r : Rl X.K cA F W.P W.pn fp s σ H) (h : Ep X.K cA F σ v ev) (e : evR ev s = some (.int i)) : v = .int i := Ep.flat r h e rfl
theorem str_of {F H : Hp} {fp : Nat → List Addr} {s : Sl} {σ : L2.St} {v : V} {ev : EV} {i : Str} (r : Rl X.K cA F W.P W.pn fp s σ H) (h : Ep X.K cA F σ v ev) (e : evR ev s = some (.str i)) : v = .str i := Ep.flat r h e rfl
theorem bl_of {F H : Hp} {fp : Nat → List Addr} {s : Sl} {σ : L2.St} {v : V} {ev : EV} {i : Bool} (r : Rl X.K cA F W.P W.pn fp s σ H) (h : Ep X.K cA F σ v ev) (e : evR ev s = some (.bl i)) : v = .bl i := Ep.flat r h e rfl
/-- a new list as an operator's value -/
theorem Ke.list {F H : Hp} {fp : Nat → List Addr} {s : Sl} {σ : L2.St} {Q : VK} {ds : List D} {vs : List V} {p : Addr} (k : KE X.K cA W F σ Q (.val (.lst true ds)) s) (r : Rl X.K cA F W.P W.pn fp s σ H) (hp : H p = none) (q : RepFs X.K cA F ds vs) : Q (.ref p) (upd H p (.lst vs)) := by
  obtain ⟨r2, q2⟩ := new_list r hp q
  exact k _ _ F fp (Same.refl F) r2 q2
theorem Ke.tup {F H : Hp} {fp : Nat → List Addr} {s : Sl} {σ : L2.St} {Q : VK} {ds : List D} {vs : List V} {p : Addr} (k : KE X.K cA W F σ Q (.val (.tup ds)) s) (r : Rl X.K cA F W.P W.pn fp s σ H) (hp : H p = none) (q : RepFs X.K cA F ds vs) : Q (.ref p) (upd H p (.tup vs)) := by
  have e1 := same_upd (Same.free r.fz hp) (.tup vs)
  exact k _ _ _ fp e1 (r.newF hp (.tup vs)) (Ev.fro rfl ⟨p, vs, rfl, .of upd_same, q.mono e1⟩)

abbrev rAddS : R2 := fun x y H Q => ∃ i j, x = .str i ∧ y = .str j ∧ i.length + j.length ≤ sizeLine ∧ Q (.str (i ++ j)) H
def rAddA (K : PySem.W.Frag) : R2 := fun x y H Q => rI0 (fun i j => .int (i + j)) x y H Q ∨ rAddS x y H Q ∨ rCat x y H Q ∨ rCatA K x y H Q
theorem op_addA : OpR X (binaryOp .Add) (rAddA X.K) := op_add.or (op_add_str.or (op_cat.or op_catA))
theorem add_ok : OpOk X cA W addD (rAddA X.K) := by
  intro F fp s σ H e1 e2 d1 d2 d x y Q r q1 q2 h1 h2 hd k
  cases d1 <;> cases d2 <;> simp only [addD, reduceCtorEq] at hd
  · cases hd
    exact .inl ⟨_, _, int_of r q1 h1, int_of r q2 h2, Ke.fin k r rfl rfl⟩
  · split at hd
    · rename_i hf
      cases hd
      exact .inr (.inl ⟨_, _, str_of r q1 h1, str_of r q2 h2, Nat.le_trans (fits_le hf) LN_le, Ke.fin k r rfl rfl⟩)
    · cases hd
  · split at hd
    · rename_i hf
      cases hd
      obtain ⟨a, vs, rfl, m1, n1⟩ := Ep.flat r q1 h1 rfl
      obtain ⟨b, us, rfl, m2, n2⟩ := Ep.flat r q2 h2 rfl
      refine .inr (.inr (.inr ⟨a, b, vs, us, rfl, rfl, SqT_mono m1 r.fz, SqT_mono m2 r.fz, ?_, fun z => ?_, fun z1 z2 => ?_, fun _ _ p hp => ?_⟩))
      · rw [← n1.length, ← n2.length]
        exact Nat.le_trans (fits_le hf) LN_le
      · subst z
        have hl := n1.length
        rename_i xs ys
        have : xs = [] := List.eq_nil_of_length_eq_zero hl
        subst this
        exact Ke.fin k r rfl ⟨b, us, rfl, m2, n2⟩
      · subst z2
        have hl := n2.length
        rename_i xs ys
        have : ys = [] := List.eq_nil_of_length_eq_zero hl
        subst this
        rw [List.append_nil] at k
        exact Ke.fin k r rfl ⟨a, vs, rfl, m1, n1⟩
      · exact Ke.tup k r hp (n1.append n2)
    · cases hd
  · split at hd
    · rename_i hf
      cases hd
      obtain ⟨a, vs, rfl, m1, n1⟩ := Ep.list r q1 h1
      obtain ⟨b, us, rfl, m2, n2⟩ := Ep.list r q2 h2
      refine .inr (.inr (.inl ⟨a, b, vs, us, rfl, rfl, m1, m2, ?_, fun p hp => Ke.list k r hp (n1.append n2)⟩))
      rw [← n1.length, ← n2.length]
      exact Nat.le_trans (fits_le hf) LN_le
    · cases hd
theorem sub_ok : OpOk X cA W subD (rI0 fun i j => .int (i - j)) := by
  intro F fp s σ H e1 e2 d1 d2 d x y Q r q1 q2 h1 h2 hd k
  cases d1 <;> cases d2 <;> simp only [subD, reduceCtorEq] at hd
  cases hd
  exact ⟨_, _, int_of r q1 h1, int_of r q2 h2, Ke.fin k r rfl rfl⟩
theorem mod_ok : OpOk X cA W modD (rI (fun _ j => 0 < j) fun i j => .int (i % j)) := by
  intro F fp s σ H e1 e2 d1 d2 d x y Q r q1 q2 h1 h2 hd k
  cases d1 <;> cases d2 <;> simp only [modD, reduceCtorEq] at hd
  split at hd
  · rename_i hc
    cases hd
    exact ⟨_, _, int_of r q1 h1, int_of r q2 h2, of_decide_eq_true hc, Ke.fin k r rfl rfl⟩
  · cases hd
theorem div_ok : OpOk X cA W divD (rI CDiv fun i j => .int (i / j)) := by
  intro F fp s σ H e1 e2 d1 d2 d x y Q r q1 q2 h1 h2 hd k
  cases d1 <;> cases d2 <;> simp only [divD, reduceCtorEq] at hd
  split at hd
  · rename_i hc
    rw [Bool.and_eq_true] at hc
    cases hd
    exact ⟨_, _, int_of r q1 h1, int_of r q2 h2, ⟨of_decide_eq_true hc.1, of_decide_eq_true hc.2⟩, Ke.fin k r rfl rfl⟩
  · cases hd
theorem pow_ok : OpOk X cA W powD (rI CPow fun i j => .int (i ^ j.toNat)) := by
  intro F fp s σ H e1 e2 d1 d2 d x y Q r q1 q2 h1 h2 hd k
  cases d1 <;> cases d2 <;> simp only [powD, reduceCtorEq] at hd
  split at hd
  · rename_i hc
    rw [Bool.and_eq_true, Bool.and_eq_true] at hc
    cases hd
    have z := of_decide_eq_true hc.1.2
    exact ⟨_, _, int_of r q1 h1, int_of r q2 h2, ⟨of_decide_eq_true hc.1.1, by omega, of_decide_eq_true hc.2⟩, Ke.fin k r rfl rfl⟩
  · cases hd
def rMulA : R2 := fun x y H Q => rI CMul (fun i j => .int (i * j)) x y H Q ∨ rRep x y H Q
theorem op_mulA : OpR X (binaryOp .Mult) rMulA := op_mul.or op_rep
theorem RepFs.rep {F : Hp} {ds : List D} {vs : List V} (h : RepFs X.K cA F ds vs) : ∀ k : Nat, RepFs X.K cA F (List.replicate k ds).flatten (List.replicate k vs).flatten
  | 0 => rfl
  | k + 1 => by
    rw [List.replicate_succ, List.replicate_succ, List.flatten_cons, List.flatten_cons]
    exact h.append (RepFs.rep h k)
theorem mul_ok : OpOk X cA W mulD rMulA := by
  intro F fp s σ H e1 e2 d1 d2 d x y Q r q1 q2 h1 h2 hd k
  cases d1 <;> cases d2 <;> simp only [mulD, reduceCtorEq] at hd
  · split at hd
    · rename_i hc
      cases hd
      refine .inl ⟨_, _, int_of r q1 h1, int_of r q2 h2, ?_, Ke.fin k r rfl rfl⟩
      unfold mulOk at hc
      rw [Bool.or_eq_true, Bool.and_eq_true, Bool.and_eq_true] at hc
      rcases hc with hc | hc
      · exact .inr ⟨of_decide_eq_true hc.1, of_decide_eq_true hc.2⟩
      · exact .inl ⟨of_decide_eq_true hc.1, of_decide_eq_true hc.2⟩
    · cases hd
  · split at hd
    · rename_i hc
      rw [Bool.and_eq_true, Bool.and_eq_true] at hc
      cases hd
      obtain ⟨a, vs, rfl, m1, n1⟩ := Ep.list r q1 h1
      have z1 := of_decide_eq_true hc.1.1
      have z2 := of_decide_eq_true hc.1.2
      refine .inr ⟨a, _, vs, rfl, int_of r q2 h2, m1, by omega, by omega, ?_, fun p hp => Ke.list k r hp (RepFs.rep n1 _)⟩
      rw [← n1.length]
      exact Nat.le_trans (fits_le hc.2) LN_le
    · cases hd

/-! ### comparisons -/
def rEqM (K : PySem.W.Frag) (neg : Bool) : R2 := fun x y H Q => ∃ d e, Dp K H x d ∧ Dp K H y e ∧ d.plain = true ∧ e.plain = true ∧ min d.depth e.depth ≤ 128 ∧ Q (.bl (if neg then !PyData.eqv d e else PyData.eqv d e)) H
theorem op_eqM (hu : X.A.units + 130 < cLine) : OpR X (compareOp .Eq) (rEqM X.K false) := by
  intro pins s σ H x y v u Q I rx ry h
  obtain ⟨d, e, hd, he, sd, se, hm, q⟩ := h
  obtain ⟨as, r1⟩ := Dp.reads I d x v hd rx
  obtain ⟨bs, r2⟩ := Dp.reads I e y u he ry
  exact SeqAt.eq_plain r1 r2 sd se (by omega) ⟨.bl _, H, I, rfl, q⟩
theorem op_neM (hu : X.A.units + 130 < cLine) : OpR X (compareOp .NotEq) (rEqM X.K true) := by
  intro pins s σ H x y v u Q I rx ry h
  obtain ⟨d, e, hd, he, sd, se, hm, q⟩ := h
  obtain ⟨as, r1⟩ := Dp.reads I d x v hd rx
  obtain ⟨bs, r2⟩ := Dp.reads I e y u he ry
  exact SeqAt.ne_plain r1 r2 sd se (by omega) ⟨.bl _, H, I, rfl, q⟩
def rEqA (K : PySem.W.Frag) : R2 := fun x y H Q => rEq x y H Q ∨ rEqM K false x y H Q
def rNeA (K : PySem.W.Frag) : R2 := fun x y H Q => rNe x y H Q ∨ rEqM K true x y H Q
theorem op_eqA (hu : X.A.units + 130 < cLine) : OpR X (compareOp .Eq) (rEqA X.K) := op_eq.or (op_eqM hu)
theorem op_neA (hu : X.A.units + 130 < cLine) : OpR X (compareOp .NotEq) (rNeA X.K) := op_ne.or (op_neM hu)
/-- what eqD says -/
theorem eqD_cases {d1 d2 : D} {b : Bool} (h : eqD d1 d2 = some b) : (∃ i j, d1 = .int i ∧ d2 = .int j ∧ b = decide (i = j)) ∨ (∃ i j, d1 = .str i ∧ d2 = .str j ∧ b = decide (i = j)) ∨ (∃ i j, d1 = .bl i ∧ d2 = .bl j ∧ b = decide (i = j)) ∨
    ∃ p q, d1.py = some p ∧ d2.py = some q ∧ p.plain = true ∧ q.plain = true ∧ min p.depth q.depth ≤ 128 ∧ b = PyData.eqv p q := by
  unfold eqD at h
  split at h
  · cases h; exact .inl ⟨_, _, rfl, rfl, rfl⟩
  · cases h; exact .inr (.inl ⟨_, _, rfl, rfl, rfl⟩)
  · cases h; exact .inr (.inr (.inl ⟨_, _, rfl, rfl, rfl⟩))
  · split at h
    · rename_i p q hp hq
      split at h
      · rename_i hc
        cases h
        exact .inr (.inr (.inr ⟨p, q, hp, hq, py_plain _ _ hp, py_plain _ _ hq, Nat.le_of_ble_eq_true hc, rfl⟩))
      · cases h
    · cases h
theorem eq_ok : OpOk X cA W (cmpD .Eq) (rEqA X.K) := by
  intro F fp s σ H e1 e2 d1 d2 d x y Q r q1 q2 h1 h2 hd k
  obtain ⟨b, hb, rfl⟩ := Option.map_eq_some_iff.mp hd
  rcases eqD_cases hb with ⟨i, j, rfl, rfl, rfl⟩ | ⟨i, j, rfl, rfl, rfl⟩ | ⟨i, j, rfl, rfl, rfl⟩ | ⟨p, q, hp, hq, c1, c2, hm, rfl⟩
  · cases int_of r q1 h1
    cases int_of r q2 h2
    refine .inl ⟨rfl, ?_⟩
    rw [show decide (V.int i = V.int j) = decide (i = j) by simp]
    exact Ke.fin k r rfl rfl
  · cases str_of r q1 h1
    cases str_of r q2 h2
    refine .inl ⟨rfl, ?_⟩
    rw [show decide (V.str i = V.str j) = decide (i = j) by simp]
    exact Ke.fin k r rfl rfl
  · cases bl_of r q1 h1
    cases bl_of r q2 h2
    refine .inl ⟨rfl, ?_⟩
    rw [show decide (V.bl i = V.bl j) = decide (i = j) by simp]
    exact Ke.fin k r rfl rfl
  · exact .inr ⟨p, q, Ep.dp r q1 h1 hp, Ep.dp r q2 h2 hq, c1, c2, hm, Ke.fin k r rfl rfl⟩
theorem ne_ok : OpOk X cA W (cmpD .NotEq) (rNeA X.K) := by
  intro F fp s σ H e1 e2 d1 d2 d x y Q r q1 q2 h1 h2 hd k
  obtain ⟨b0, hb0, rfl⟩ := Option.map_eq_some_iff.mp hd
  obtain ⟨b, hb, rfl⟩ := Option.map_eq_some_iff.mp hb0
  rcases eqD_cases hb with ⟨i, j, rfl, rfl, rfl⟩ | ⟨i, j, rfl, rfl, rfl⟩ | ⟨i, j, rfl, rfl, rfl⟩ | ⟨p, q, hp, hq, c1, c2, hm, rfl⟩
  · cases int_of r q1 h1
    cases int_of r q2 h2
    refine .inl ⟨rfl, ?_⟩
    rw [show decide (V.int i = V.int j) = decide (i = j) by simp]
    exact Ke.fin k r rfl rfl
  · cases str_of r q1 h1
    cases str_of r q2 h2
    refine .inl ⟨rfl, ?_⟩
    rw [show decide (V.str i = V.str j) = decide (i = j) by simp]
    exact Ke.fin k r rfl rfl
  · cases bl_of r q1 h1
    cases bl_of r q2 h2
    refine .inl ⟨rfl, ?_⟩
    rw [show decide (V.bl i = V.bl j) = decide (i = j) by simp]
    exact Ke.fin k r rfl rfl
  · exact .inr ⟨p, q, Ep.dp r q1 h1 hp, Ep.dp r q2 h2 hq, c1, c2, hm, Ke.fin k r rfl rfl⟩
theorem ord_ok {o : CmpOp} {p : Int → Int → Bool} (h : ∀ a b, cmpB o a b = ordD p a b) : OpOk X cA W (cmpD o) (rI0 fun i j => .bl (p i j)) := by
  intro F fp s σ H e1 e2 d1 d2 d x y Q r q1 q2 h1 h2 hd k
  obtain ⟨b, hb, rfl⟩ := Option.map_eq_some_iff.mp hd
  rw [h] at hb
  cases d1 <;> cases d2 <;> simp only [ordD, reduceCtorEq] at hb
  cases hb
  exact ⟨_, _, int_of r q1 h1, int_of r q2 h2, Ke.fin k r rfl rfl⟩
def rLeA : R2 := fun x y H Q => rI0 (fun i j => .bl (decide (i ≤ j))) x y H Q ∨ ∃ i j, x = .str i ∧ y = .str j ∧ Q (.bl (!decide (j.cps.toList < i.cps.toList))) H
theorem op_leA : OpR X (compareOp .LtE) rLeA := op_le.or op_le_str
theorem le_ok : OpOk X cA W (cmpD .LtE) rLeA := by
  intro F fp s σ H e1 e2 d1 d2 d x y Q r q1 q2 h1 h2 hd k
  obtain ⟨b, hb, rfl⟩ := Option.map_eq_some_iff.mp hd
  have hb : leD d1 d2 = some b := hb
  cases d1 <;> cases d2 <;> simp only [leD, reduceCtorEq] at hb
  · cases hb
    exact .inl ⟨_, _, int_of r q1 h1, int_of r q2 h2, Ke.fin k r rfl rfl⟩
  · cases hb
    exact .inr ⟨_, _, str_of r q1 h1, str_of r q2 h2, Ke.fin k r rfl rfl⟩
theorem isN_cases {d1 d2 : D} {b : Bool} (h : isN d1 d2 = some b) : d2 = .non ∧ b = d1.isNon := by
  cases d2 <;> simp only [isN, reduceCtorEq] at h
  cases h
  exact ⟨rfl, rfl⟩
theorem non_iff {F H : Hp} {fp : Nat → List Addr} {s : Sl} {σ : L2.St} {v : V} {ev : EV} {d : D} (r : Rl X.K cA F W.P W.pn fp s σ H) (h : Ep X.K cA F σ v ev) (e : evR ev s = some d) : d.isNon = decide (v = .non) := by
  cases d with
  | non => cases (Ep.flat r h e rfl : v = _); rfl
  | bl b => cases (Ep.flat r h e rfl : v = _); rfl
  | int b => cases (Ep.flat r h e rfl : v = _); rfl
  | str b => cases (Ep.flat r h e rfl : v = _); rfl
  | tup xs => obtain ⟨a, vs, rfl, _⟩ := Ep.flat r h e rfl; rfl
  | ro xs => obtain ⟨a, vs, rfl, _⟩ := Ep.flat r h e rfl; rfl
  | lst o xs => obtain ⟨a, vs, rfl, _⟩ := Ep.list r h e; rfl
  | dct o ks xs => obtain ⟨a, vs, rfl, _⟩ := Ep.dict r h e; rfl
  | obj o c ks xs =>
    cases ev with
    | val d' =>
      simp only [evR, Option.some.injEq] at e
      cases d' <;> simp only [D.frz, reduceCtorEq] at e
      obtain ⟨⟨a, dx, vs, rfl, _⟩, _⟩ := h
      rfl
    | al i =>
      simp only [evR] at e
      split at e
      · rename_i d' hd
        simp only [Option.some.injEq] at e
        obtain ⟨u, hu, q⟩ := r.sl i _ hd
        have hv : σ[i]? = some (some v) := h
        rw [hv] at hu
        cases hu
        cases d' <;> simp only [D.frz, reduceCtorEq] at e
        rename_i o' c' ks' xs'
        cases o' with
        | true => obtain ⟨a, dx, vs, ls, rfl, _⟩ := q; rfl
        | false => obtain ⟨⟨a, dx, vs, rfl, _⟩, _⟩ := q; rfl
      · cases e
theorem is_ok : OpOk X cA W (cmpD .Is) (fun x y H Q => y = .non ∧ Q (.bl (decide (x = .non))) H) := by
  intro F fp s σ H e1 e2 d1 d2 d x y Q r q1 q2 h1 h2 hd k
  obtain ⟨b, hb, rfl⟩ := Option.map_eq_some_iff.mp hd
  obtain ⟨rfl, rfl⟩ := isN_cases hb
  refine ⟨Ep.flat r q2 h2 rfl, ?_⟩
  rw [← non_iff r q1 h1]
  exact Ke.fin k r rfl rfl
theorem isnot_ok : OpOk X cA W (cmpD .IsNot) (fun x y H Q => y = .non ∧ Q (.bl (!decide (x = .non))) H) := by
  intro F fp s σ H e1 e2 d1 d2 d x y Q r q1 q2 h1 h2 hd k
  obtain ⟨b0, hb0, rfl⟩ := Option.map_eq_some_iff.mp hd
  obtain ⟨b, hb, rfl⟩ := Option.map_eq_some_iff.mp hb0
  obtain ⟨rfl, rfl⟩ := isN_cases hb
  refine ⟨Ep.flat r q2 h2 rfl, ?_⟩
  rw [← non_iff r q1 h1]
  exact Ke.fin k r rfl rfl
/-- in: flat items, data, a sign of a text -/
def rInM (K : PySem.W.Frag) (neg : Bool) : R2 := fun x y H Q => ∃ d ds, Dp K H x d ∧ (Dp K H y (.list ds) ∨ Dp K H y (.tuple ds)) ∧ d.plain = true ∧ PyData.plainAll ds = true ∧ min (PyData.depthAll ds) d.depth ≤ 128 ∧
  Q (.bl (if neg then !(ds.any fun z => PyData.eqv z d) else ds.any fun z => PyData.eqv z d)) H
theorem op_inM (hu : X.A.units + 130 < cLine) : OpR X (compareOp .In) (rInM X.K false) := by
  intro pins s σ H x y v u Q I rx ry h
  obtain ⟨d, ds, hd, he, sd, se, hm, q⟩ := h
  obtain ⟨as, r1⟩ := Dp.reads I d x v hd rx
  rcases he with he | he
  · obtain ⟨bs, r2⟩ := Dp.reads I _ y u he ry
    exact SeqAt.in_list_data r2 r1 se sd (by omega) ⟨.bl _, H, I, rfl, q⟩
  · obtain ⟨bs, r2⟩ := Dp.reads I _ y u he ry
    exact SeqAt.in_tuple_data r2 r1 se sd (by omega) ⟨.bl _, H, I, rfl, q⟩
theorem op_notInM (hu : X.A.units + 130 < cLine) : OpR X (compareOp .NotIn) (rInM X.K true) := by
  intro pins s σ H x y v u Q I rx ry h
  obtain ⟨d, ds, hd, he, sd, se, hm, q⟩ := h
  obtain ⟨as, r1⟩ := Dp.reads I d x v hd rx
  rcases he with he | he
  · obtain ⟨bs, r2⟩ := Dp.reads I _ y u he ry
    exact SeqAt.notIn_list_data r2 r1 se sd (by omega) ⟨.bl _, H, I, rfl, q⟩
  · obtain ⟨bs, r2⟩ := Dp.reads I _ y u he ry
    exact SeqAt.notIn_tuple_data r2 r1 se sd (by omega) ⟨.bl _, H, I, rfl, q⟩
def rSign (neg : Bool) : R2 := fun x y H Q => ∃ (c : Nat) (z : Str), x = .str ⟨#[c]⟩ ∧ y = .str z ∧ Q (.bl (if neg then !decide (c ∈ z.cps.toList) else decide (c ∈ z.cps.toList))) H
def rInDct (neg : Bool) : R2 := fun x y H Q => ∃ a o, y = .ref a ∧ DGet H a x o ∧ Q (.bl (if neg then !o.isSome else o.isSome)) H
theorem op_inDct (hu : X.A.units + 130 < cLine) : OpR X (compareOp .In) (rInDct false) := by
  intro pins s σ H x y v u Q I rx ry h
  obtain ⟨a, o, rfl, g, q⟩ := h
  cases ry
  exact d_in (by omega) I g rx fun s' I' => ⟨.bl _, H, I', rfl, q⟩
theorem op_notInDct (hu : X.A.units + 130 < cLine) : OpR X (compareOp .NotIn) (rInDct true) := by
  intro pins s σ H x y v u Q I rx ry h
  obtain ⟨a, o, rfl, g, q⟩ := h
  cases ry
  exact d_notIn (by omega) I g rx fun s' I' => ⟨.bl _, H, I', rfl, q⟩
def rInA (K : PySem.W.Frag) (neg : Bool) : R2 := fun x y H Q => rIn K neg x y H Q ∨ rInM K neg x y H Q ∨ rSign neg x y H Q ∨ rInDct neg x y H Q
theorem op_inA (hu : X.A.units + 130 < cLine) : OpR X (compareOp .In) (rInA X.K false) := op_in_seq.or ((op_inM hu).or (op_in_sign.or (op_inDct hu)))
theorem op_notInA (hu : X.A.units + 130 < cLine) : OpR X (compareOp .NotIn) (rInA X.K true) := op_notIn_seq.or ((op_notInM hu).or (op_notIn_sign.or (op_notInDct hu)))
/-- a dict asked for a key -/
theorem dget_of {F H : Hp} {fp : Nat → List Addr} {s : Sl} {σ : L2.St} {e1 e2 : EV} {d : D} {o : Bool} {ks : List Key} {xs : List D} {k : Key} {x y : V} (r : Rl X.K cA F W.P W.pn fp s σ H) (q1 : Ep X.K cA F σ x e1) (q2 : Ep X.K cA F σ y e2) (h1 : evR e1 s = some d) (h2 : evR e2 s = some (.dct o ks xs)) (hk : d.key = some k) :
    ∃ a, y = .ref a ∧ (∀ d', dgetD ks xs k = some d' → ∃ v, DGet H a x (some v) ∧ RepF X.K cA F d' v) ∧ (dgetD ks xs k = none → DGet H a x none) := by
  obtain ⟨a, vs, rfl, m, hl, n⟩ := Ep.dict r q2 h2
  have hx : x = kV k := by
    cases d <;> simp only [D.key, reduceCtorEq, Option.some.injEq] at hk
    · subst hk; exact int_of r q1 h1
    · subst hk; exact str_of r q1 h1
  subst hx
  obtain ⟨g1, g2⟩ := dget_ok (k := k) hl n
  refine ⟨a, rfl, fun d' e => ?_, fun e => .inl ⟨_, k, m, rfl, (g2 e).symm⟩⟩
  obtain ⟨v, e1, e2⟩ := g1 d' e
  exact ⟨v, .inl ⟨_, k, m, rfl, e1.symm⟩, e2⟩
theorem sc_flat {F : Hp} {d : D} {v : V} (h : RepF X.K cA F d v) (s : d.sc = true) : flatV v = true := by
  cases d with
  | non => cases (show v = _ from h); rfl
  | bl b => cases (show v = _ from h); rfl
  | int b => cases (show v = _ from h); rfl
  | str b => cases (show v = _ from h); rfl
  | _ => cases s
theorem sc_eq {F : Hp} {d d' : D} {v v' : V} (h : RepF X.K cA F d v) (h' : RepF X.K cA F d' v') (s : d.sc = true) (s' : d'.sc = true) : eqV v v' = eqS d d' := by
  cases d with
  | non => cases (show v = _ from h); cases d' <;> first | (cases s'; done) | (cases (show v' = _ from h'); rfl)
  | bl b => cases (show v = _ from h); cases d' <;> first | (cases s'; done) | (cases (show v' = _ from h'); rfl)
  | int b => cases (show v = _ from h); cases d' <;> first | (cases s'; done) | (cases (show v' = _ from h'); rfl)
  | str b => cases (show v = _ from h); cases d' <;> first | (cases s'; done) | (cases (show v' = _ from h'); rfl)
  | _ => cases s
theorem scs_flat {F : Hp} : ∀ {ds : List D} {vs : List V}, RepFs X.K cA F ds vs → ds.all D.sc = true → vs.all flatV = true
  | [], vs, h, _ => by cases (show vs = [] from h); rfl
  | d :: ds, vs, h, s => by
    obtain ⟨v, r, rfl, h2, h3⟩ := h
    rw [List.all_cons, Bool.and_eq_true] at s ⊢
    exact ⟨sc_flat h2 s.1, scs_flat h3 s.2⟩
theorem scs_in {F : Hp} {d : D} {v : V} (hv : RepF X.K cA F d v) (sv : d.sc = true) : ∀ {ds : List D} {vs : List V}, RepFs X.K cA F ds vs → ds.all D.sc = true → inV v vs = ds.any fun y => eqS y d
  | [], vs, h, _ => by cases (show vs = [] from h); rfl
  | e :: ds, vs, h, s => by
    obtain ⟨u, r, rfl, h2, h3⟩ := h
    rw [List.all_cons, Bool.and_eq_true] at s
    have ih := scs_in hv sv h3 s.2
    unfold inV at ih ⊢
    rw [List.any_cons, List.any_cons, sc_eq h2 hv s.1 sv, ih]
theorem in_gen {F H : Hp} {fp : Nat → List Addr} {s : Sl} {σ : L2.St} {e1 : EV} {d1 : D} {xs : List D} {x y : V} {b neg : Bool} {Q : VK} (r : Rl X.K cA F W.P W.pn fp s σ H) (q1 : Ep X.K cA F σ x e1) (h1 : evR e1 s = some d1) (hl : inL d1 xs = some b)
    (hy : ∃ (a : Addr) (vs : List V), y = .ref a ∧ (SqL X.K H a vs ∨ SqT X.K H a vs) ∧ RepFs X.K cA F xs vs) (k : KE X.K cA W F σ Q (.val (.bl (if neg then !b else b))) s) : rInA X.K neg x y H Q := by
  obtain ⟨a, vs, rfl, hs, n⟩ := hy
  unfold inL at hl
  split at hl
  · rename_i hc
    rw [Bool.and_eq_true] at hc
    cases hl
    have hx : RepF X.K cA F d1 x := by cases d1 <;> first | exact Ep.flat r q1 h1 rfl | (cases hc.1; done)
    refine .inl ⟨a, vs, rfl, hs, sc_flat hx hc.1, scs_flat n hc.2, ?_⟩
    rw [scs_in hx hc.1 n hc.2]
    exact Ke.fin k r rfl rfl
  · split at hl
    · rename_i p qs hp hq
      split at hl
      · rename_i hc
        cases hl
        have z := RepFs.dps r.fz _ _ _ n hq
        refine .inr (.inl ⟨p, qs, Ep.dp r q1 h1 hp, ?_, py_plain _ _ hp, pys_plain _ _ hq, Nat.le_of_ble_eq_true hc, Ke.fin k r rfl rfl⟩)
        rcases hs with hs | hs
        · exact .inl (.lst hs z)
        · exact .inr (.tup hs z)
      · cases hl
    · cases hl
theorem inA_gen {F H : Hp} {fp : Nat → List Addr} {s : Sl} {σ : L2.St} {e1 e2 : EV} {d1 d2 : D} {x y : V} {b neg : Bool} {Q : VK} (r : Rl X.K cA F W.P W.pn fp s σ H) (q1 : Ep X.K cA F σ x e1) (q2 : Ep X.K cA F σ y e2) (h1 : evR e1 s = some d1) (h2 : evR e2 s = some d2) (hl : inD d1 d2 = some b)
    (k : KE X.K cA W F σ Q (.val (.bl (if neg then !b else b))) s) : rInA X.K neg x y H Q := by
  cases d2 with
  | tup xs =>
    obtain ⟨a, vs, rfl, m, n⟩ := Ep.flat r q2 h2 rfl
    exact in_gen r q1 h1 hl ⟨a, vs, rfl, .inr (SqT_mono m r.fz), n⟩ k
  | ro xs =>
    obtain ⟨a, vs, rfl, m, n⟩ := Ep.flat r q2 h2 rfl
    exact in_gen r q1 h1 hl ⟨a, vs, rfl, .inl (r.fz.seq m), n⟩ k
  | lst o xs =>
    obtain ⟨a, vs, rfl, m, n⟩ := Ep.list r q2 h2
    exact in_gen r q1 h1 hl ⟨a, vs, rfl, .inl (.of m), n⟩ k
  | str z =>
    cases str_of r q2 h2
    cases d1 <;> simp only [inD, reduceCtorEq] at hl
    rename_i w
    split at hl
    · rename_i c hc
      cases hl
      cases str_of r q1 h1
      have e : w = ⟨#[c]⟩ := by
        obtain ⟨ws⟩ := w
        have : ws = #[c] := by
          have hc : ws.toList = [c] := hc
          rw [← Array.toArray_toList (xs := ws), hc]
        rw [this]
      rw [e]
      exact .inr (.inr (.inl ⟨c, z, rfl, rfl, Ke.fin k r rfl rfl⟩))
    · cases hl
  | dct o ks xs =>
    simp only [inD] at hl
    obtain ⟨key, hk, rfl⟩ := Option.map_eq_some_iff.mp hl
    obtain ⟨a, rfl, g1, g2⟩ := dget_of r q1 q2 h1 h2 hk
    cases e : dgetD ks xs key with
    | none =>
      rw [e] at k
      exact .inr (.inr (.inr ⟨a, none, rfl, g2 e, Ke.fin k r rfl rfl⟩))
    | some d' =>
      rw [e] at k
      obtain ⟨v, g, _⟩ := g1 d' e
      exact .inr (.inr (.inr ⟨a, some v, rfl, g, Ke.fin k r rfl rfl⟩))
  | _ => simp only [inD, reduceCtorEq] at hl
theorem in_ok : OpOk X cA W (cmpD .In) (rInA X.K false) := by
  intro F fp s σ H e1 e2 d1 d2 d x y Q r q1 q2 h1 h2 hd k
  obtain ⟨b, hb, rfl⟩ := Option.map_eq_some_iff.mp hd
  exact inA_gen (neg := false) r q1 q2 h1 h2 hb k
theorem notIn_ok : OpOk X cA W (cmpD .NotIn) (rInA X.K true) := by
  intro F fp s σ H e1 e2 d1 d2 d x y Q r q1 q2 h1 h2 hd k
  obtain ⟨b0, hb0, rfl⟩ := Option.map_eq_some_iff.mp hd
  obtain ⟨b, hb, rfl⟩ := Option.map_eq_some_iff.mp hb0
  exact inA_gen (neg := true) r q1 q2 h1 h2 hb k

/-- every binary operator -/
def rBin (K : PySem.W.Frag) : Operator → R2
  | .Add => rAddA K
  | .Sub => rI0 fun i j => .int (i - j)
  | .Mult => rMulA
  | .Mod => rI (fun _ j => 0 < j) fun i j => .int (i % j)
  | .FloorDiv => rI CDiv fun i j => .int (i / j)
  | .Pow => rI CPow fun i j => .int (i ^ j.toNat)
  | _ => fun _ _ _ _ => False
theorem op_bin : ∀ o : Operator, OpR X (binaryOp o) (rBin X.K o)
  | .Add => op_addA
  | .Sub => op_sub
  | .Mult => op_mulA
  | .Mod => op_mod
  | .FloorDiv => op_fdiv
  | .Pow => op_pow
  | .MatMult => fun _ _ _ _ _ _ _ _ _ _ _ _ h => h.elim
  | .Div => fun _ _ _ _ _ _ _ _ _ _ _ _ h => h.elim
  | .LShift => fun _ _ _ _ _ _ _ _ _ _ _ _ h => h.elim
  | .RShift => fun _ _ _ _ _ _ _ _ _ _ _ _ h => h.elim
  | .BitOr => fun _ _ _ _ _ _ _ _ _ _ _ _ h => h.elim
  | .BitXor => fun _ _ _ _ _ _ _ _ _ _ _ _ h => h.elim
  | .BitAnd => fun _ _ _ _ _ _ _ _ _ _ _ _ h => h.elim
theorem bin_ok : ∀ o : Operator, OpOk X cA W (binD o) (rBin X.K o)
  | .Add => add_ok
  | .Sub => sub_ok
  | .Mult => mul_ok
  | .Mod => mod_ok
  | .FloorDiv => div_ok
  | .Pow => pow_ok
  | .MatMult => fun _ _ _ _ _ _ _ _ _ _ _ _ _ _ _ _ _ _ h _ => by cases h
  | .Div => fun _ _ _ _ _ _ _ _ _ _ _ _ _ _ _ _ _ _ h _ => by cases h
  | .LShift => fun _ _ _ _ _ _ _ _ _ _ _ _ _ _ _ _ _ _ h _ => by cases h
  | .RShift => fun _ _ _ _ _ _ _ _ _ _ _ _ _ _ _ _ _ _ h _ => by cases h
  | .BitOr => fun _ _ _ _ _ _ _ _ _ _ _ _ _ _ _ _ _ _ h _ => by cases h
  | .BitXor => fun _ _ _ _ _ _ _ _ _ _ _ _ _ _ _ _ _ _ h _ => by cases h
  | .BitAnd => fun _ _ _ _ _ _ _ _ _ _ _ _ _ _ _ _ _ _ h _ => by cases h
theorem se_bin {o : Operator} (ha : SE X cA W a f) (hb : SE X cA W b g) : SE X cA W (.BinOp a o b pos) (bin2 f g (op2K (binD o))) := se_op2 (op_bin o) (bin_ok o) ha hb
def rCmp (K : PySem.W.Frag) : CmpOp → R2
  | .Eq => rEqA K
  | .NotEq => rNeA K
  | .Lt => rI0 fun i j => .bl (decide (i < j))
  | .LtE => rLeA
  | .Gt => rI0 fun i j => .bl (decide (j < i))
  | .GtE => rI0 fun i j => .bl (decide (j ≤ i))
  | .In => rInA K false
  | .NotIn => rInA K true
  | .Is => fun x y H Q => y = .non ∧ Q (.bl (decide (x = .non))) H
  | .IsNot => fun x y H Q => y = .non ∧ Q (.bl (!decide (x = .non))) H
theorem op_cmp (hu : X.A.units + 130 < cLine) : ∀ o : CmpOp, OpR X (compareOp o) (rCmp X.K o)
  | .Eq => op_eqA hu
  | .NotEq => op_neA hu
  | .Lt => op_lt
  | .LtE => op_leA
  | .Gt => op_gt
  | .GtE => op_ge
  | .In => op_inA hu
  | .NotIn => op_notInA hu
  | .Is => op_isN
  | .IsNot => op_notN
theorem cmp_ok : ∀ o : CmpOp, OpOk X cA W (cmpD o) (rCmp X.K o)
  | .Eq => eq_ok
  | .NotEq => ne_ok
  | .Lt => ord_ok fun _ _ => rfl
  | .LtE => le_ok
  | .Gt => ord_ok fun _ _ => rfl
  | .GtE => ord_ok fun _ _ => rfl
  | .In => in_ok
  | .NotIn => notIn_ok
  | .Is => is_ok
  | .IsNot => isnot_ok
end
end NS
namespace NS
open PySem PySem.Spec PyProof.Rows L2

/-! ## 6. comparisons, subscripts, built-in calls -/
def cmpK (o : CmpOp) (e1 e2 : EV) (s : Sl) : R Bool := match evR e1 s, evR e2 s with
  | some d1, some d2 => match cmpB o d1 d2 with
    | some b => .ok b s
    | none => .no
  | _, _ => .no
def cmpT (o : CmpOp) (f g : Sl → R EV) : Sl → R Bool := bin2 f g (cmpK o)
def chainT (o o' : CmpOp) (f g h : Sl → R EV) : Sl → R Bool := bin2 f g fun e1 e2 s => (cmpK o e1 e2 s).bind fun b s1 => if b then penE h (fun e3 s3 => cmpK o' e2 e3 s3) s1 else .ok false s1
def valB (f : Sl → R Bool) : Sl → R EV := fun s => (f s).bind fun b s1 => .ok (.val (.bl b)) s1

section
variable {X : Cx} {cA : Nat → Addr} {W : Gx} {e a b c : Expr} {es : List Expr} {f g h : Sl → R EV} {pos : Pos}

theorem two_cmp {β : Type} {o : CmpOp} {kk : EV → EV → Bool → Sl → R β} {C : Hp → β → Sl → Prop} {σ : L2.St} {H : Hp} {x y : V} {Q : VK} (mono : ∀ F F' b s, Same F F' → C F b s → C F' b s)
    (h : Two X cA W (fun e1 e2 s => (cmpK o e1 e2 s).bind (kk e1 e2)) C σ x y H)
    (fin : ∀ b F fp s e1 e2 H', Rl X.K cA F W.P W.pn fp s σ H' → Ep X.K cA F σ x e1 → Ep X.K cA F σ y e2 → Po X.K cA W F σ (kk e1 e2 b s) (C F) → Q (.bl b) H') : rCmp X.K o x y H Q := by
  obtain ⟨F, fp, s, e1, e2, rl, q1, q2, p⟩ := h
  change Po X.K cA W F σ ((cmpK o e1 e2 s).bind (kk e1 e2)) (C F) at p
  unfold cmpK at p
  split at p
  · rename_i d1 d2 h1 h2
    split at p
    · rename_i b hb
      refine cmp_ok o F fp s σ H e1 e2 d1 d2 (.bl b) x y Q rl q1 q2 h1 h2 (by rw [cmpD, hb]; rfl) fun v H' F' fp' g' r' z => ?_
      cases Ev.bl z
      exact fin b F' fp' s e1 e2 H' r' (q1.mono g') (q2.mono g') (Po.up g' p fun b s' _ z => mono _ _ _ _ g' z)
    · exact p.elim
  · exact p.elim
theorem bind_ok {α : Type} (r : R α) : r.bind (fun a s => .ok a s) = r := by cases r <;> rfl
theorem cmpT_eq (o : CmpOp) (f g : Sl → R EV) : cmpT o f g = bin2 f g (fun e1 e2 s => (cmpK o e1 e2 s).bind fun b s => .ok b s) := by
  unfold cmpT
  congr 1
  funext e1 e2 s
  rw [bind_ok]
theorem st_cmp {o : CmpOp} (hu : X.A.units + 130 < cLine) (ha : SE X cA W a f) (hb : SE X cA W b g) (hs : notSet b = true) : ST X cA W (.Compare a [o] [b] pos) (cmpT o f g) := by
  refine PT_mono (pt_cmpR (op_cmp hu o) ha hb (behind_no hs)) fun σ H Q h => ?_
  rw [cmpT_eq] at h
  have z := bin_run (C := fun F => KT X.K cA W F σ Q) KT_mono h
  obtain ⟨F, fp, s, rl, p⟩ := z
  refine ⟨F, fp, s, rl, Po.up (Same.refl _) p fun ev s' _ z x H1 F' fp' g' r' q' => ?_⟩
  obtain ⟨F2, fp2, s2, r2, p2⟩ := z x H1 F' fp' g' r' q'
  refine ⟨F2, fp2, s2, r2, Po.up (Same.refl _) p2 fun ev s' _ z y H2 F' fp' g' r' q' => ?_⟩
  exact two_cmp KT_mono (z y H2 F' fp' g' r' q') fun b F fp s e1 e2 H' r q1 q2 p => ⟨b, rfl, p H' F fp (Same.refl F) r⟩
theorem valB_cmp (o : CmpOp) (f g : Sl → R EV) : valB (cmpT o f g) = bin2 f g (fun e1 e2 s => (cmpK o e1 e2 s).bind fun b s => .ok (.val (.bl b)) s) := by
  funext s
  unfold valB cmpT bin2 penE
  cases h1 : f s with
  | ok a1 s1 =>
    simp only [R.bind]
    cases h2 : g s1 with
    | ok a2 s2 => rfl
    | ex x s2 => rfl
    | no => rfl
  | ex x s1 => rfl
  | no => rfl
theorem se_cmp {o : CmpOp} (hu : X.A.units + 130 < cLine) (ha : SE X cA W a f) (hb : SE X cA W b g) (hs : notSet b = true) : SE X cA W (.Compare a [o] [b] pos) (valB (cmpT o f g)) := by
  refine PE_mono (pe_cmpR (op_cmp hu o) ha hb (behind_no hs)) fun σ H Q h => ?_
  rw [valB_cmp] at h
  have z := bin_run (C := fun F => KE X.K cA W F σ Q) KE_mono h
  obtain ⟨F, fp, s, rl, p⟩ := z
  refine ⟨F, fp, s, rl, Po.up (Same.refl _) p fun ev s' _ z x H1 F' fp' g' r' q' => ?_⟩
  obtain ⟨F2, fp2, s2, r2, p2⟩ := z x H1 F' fp' g' r' q'
  refine ⟨F2, fp2, s2, r2, Po.up (Same.refl _) p2 fun ev s' _ z y H2 F' fp' g' r' q' => ?_⟩
  exact two_cmp KE_mono (z y H2 F' fp' g' r' q') fun b F fp s e1 e2 H' r q1 q2 p => p _ H' F fp (Same.refl F) r (Ev.fro rfl rfl)
theorem last_no {o o' : CmpOp} (h2 : notSet c = true) : lastMarks [o, o'] [b, c] = false := by
  show lastMarks [o'] [c] = false
  exact behind_no h2
/-- a chain's end, for a test or a value -/
theorem chain_fin {β : Type} {o o' : CmpOp} {σ : L2.St} {H1 : Hp} {C : Hp → β → Sl → Prop} {kk : Bool → Sl → R β} {x y : V} {Q : VK} (mono : ∀ F F' b s, Same F F' → C F b s → C F' b s)
    (hC : ∀ b F fp s H', Rl X.K cA F W.P W.pn fp s σ H' → Po X.K cA W F σ (kk b s) (C F) → Q (.bl b) H')
    (z : Two X cA W (fun e1 e2 s => (cmpK o e1 e2 s).bind fun b s1 => (if b then penE h (fun e3 s3 => cmpK o' e2 e3 s3) s1 else .ok false s1).bind kk) C σ x y H1) :
    rCmp X.K o x y H1 fun z H3 => ∃ k, z = .bl k ∧ (if k = true then tE X.K cA W h σ H3 fun w' H4 => rCmp X.K o' y w' H4 Q else Q (.bl false) H3) := by
  refine two_cmp (kk := fun e1 e2 b s1 => (if b then penE h (fun e3 s3 => cmpK o' e2 e3 s3) s1 else .ok false s1).bind kk) mono z fun b F fp s e1 e2 H' r q1 q2 p => ⟨b, rfl, ?_⟩
  cases b with
  | false => exact iteF (hC false F fp s H' r p)
  | true =>
    refine iteT ?_
    have p' : Po X.K cA W F σ (penE h (fun e3 s3 => (cmpK o' e2 e3 s3).bind kk) s) (C F) := by
      have e : penE h (fun e3 s3 => (cmpK o' e2 e3 s3).bind kk) s = (penE h (fun e3 s3 => cmpK o' e2 e3 s3) s).bind kk := by
        unfold penE
        cases h s <;> rfl
      rw [e]
      exact p
    have z := pen_run (C := C) mono r p'
    obtain ⟨F0, fp0, s0, r0, p0⟩ := z
    refine ⟨F0, fp0, s0, r0, Po.up (Same.refl _) p0 fun ev s' _ z w H2 F' fp' g' r' q' => ?_⟩
    obtain ⟨F3, fp3, s3, e3, r3, q3, g3, p3⟩ := z w H2 F' fp' g' r' q'
    exact two_cmp (kk := fun _ _ => kk) mono ⟨F3, fp3, s3, e2, e3, r3, q2.mono g3, q3, p3⟩ fun b F fp s e1 e2 H' r q1 q2 p => hC b F fp s H' r p
theorem chain_bind {β : Type} {o o' : CmpOp} (kk : Bool → Sl → R β) (s : Sl) : (chainT o o' f g h s).bind kk = bin2 f g (fun e1 e2 s => (cmpK o e1 e2 s).bind fun b s1 => (if b then penE h (fun e3 s3 => cmpK o' e2 e3 s3) s1 else .ok false s1).bind kk) s := by
  unfold chainT bin2 penE
  cases f s with
  | ok a1 s1 =>
    simp only [R.bind]
    cases g s1 with
    | ok a2 s2 =>
      simp only [R.bind]
      cases cmpK o a1.pend a2.pend s2 with
      | ok b s3 => cases b <;> rfl
      | ex x s3 => rfl
      | no => rfl
    | ex x s2 => rfl
    | no => rfl
  | ex x s1 => rfl
  | no => rfl
theorem se_chain {o o' : CmpOp} (hu : X.A.units + 130 < cLine) (ha : SE X cA W a f) (hb : SE X cA W b g) (hc : SE X cA W c h) (hs : notSet c = true) : SE X cA W (.Compare a [o, o'] [b, c] pos) (valB (chainT o o' f g h)) := by
  refine PE_mono (pe_chain (op_cmp hu o) (op_cmp hu o') ha hb hc (last_no hs)) fun σ H Q hh => ?_
  obtain ⟨F, fp, s, rl, p⟩ := hh
  have p : Po X.K cA W F σ ((chainT o o' f g h s).bind fun b s1 => .ok (.val (.bl b)) s1) (KE X.K cA W F σ Q) := p
  rw [chain_bind] at p
  have z := bin_run (C := fun F => KE X.K cA W F σ Q) KE_mono ⟨F, fp, s, rl, p⟩
  obtain ⟨F, fp, s, rl, p⟩ := z
  refine ⟨F, fp, s, rl, Po.up (Same.refl _) p fun ev s' _ z x H1 F' fp' g' r' q' => ?_⟩
  obtain ⟨F2, fp2, s2, r2, p2⟩ := z x H1 F' fp' g' r' q'
  refine ⟨F2, fp2, s2, r2, Po.up (Same.refl _) p2 fun ev s' _ z y H2 F' fp' g' r' q' => ?_⟩
  exact chain_fin (C := fun F => KE X.K cA W F σ Q) (kk := fun b s1 => .ok (.val (.bl b)) s1) KE_mono (fun b F fp s H' r p => p _ H' F fp (Same.refl F) r (Ev.fro rfl rfl)) (z y H2 F' fp' g' r' q')
theorem st_chain {o o' : CmpOp} (hu : X.A.units + 130 < cLine) (ha : SE X cA W a f) (hb : SE X cA W b g) (hc : SE X cA W c h) (hs : notSet c = true) : ST X cA W (.Compare a [o, o'] [b, c] pos) (chainT o o' f g h) := by
  refine PT_mono (pt_chain (op_cmp hu o) (op_cmp hu o') ha hb hc (last_no hs)) fun σ H Q hh => ?_
  obtain ⟨F, fp, s, rl, p⟩ := hh
  rw [← bind_ok (chainT o o' f g h s), chain_bind] at p
  have z := bin_run (C := fun F => KT X.K cA W F σ Q) KT_mono ⟨F, fp, s, rl, p⟩
  obtain ⟨F, fp, s, rl, p⟩ := z
  refine ⟨F, fp, s, rl, Po.up (Same.refl _) p fun ev s' _ z x H1 F' fp' g' r' q' => ?_⟩
  obtain ⟨F2, fp2, s2, r2, p2⟩ := z x H1 F' fp' g' r' q'
  refine ⟨F2, fp2, s2, r2, Po.up (Same.refl _) p2 fun ev s' _ z y H2 F' fp' g' r' q' => ?_⟩
  exact chain_fin (C := fun F => KT X.K cA W F σ Q) (kk := fun b s1 => .ok b s1) (Q := fun x H' => ∃ k, x = .bl k ∧ Q k H') KT_mono (fun b F fp s H' r p => ⟨b, rfl, p H' F fp (Same.refl F) r⟩) (z y H2 F' fp' g' r' q')

/-! ### one operand -/
def negD : D → Option D
  | .int i => some (.int (-i))
  | _ => none
theorem se_neg (ha : SE X cA W a f) : SE X cA W (.UnaryOp .USub a pos) (penE f (op1K negD)) := by
  refine PE_mono (pe_un un_neg ha) fun σ H Q h => ?_
  have z := one_run (C := fun F => KE X.K cA W F σ Q) KE_mono h
  obtain ⟨F, fp, s, rl, p⟩ := z
  refine ⟨F, fp, s, rl, Po.up (Same.refl _) p fun ev s' _ z x H1 F' fp' g' r' q' => ?_⟩
  obtain ⟨F1, fp1, s1, e1, r1, q1, p1⟩ := z x H1 F' fp' g' r' q'
  unfold op1K at p1
  split at p1
  · rename_i d1 h1
    cases d1 <;> simp only [negD] at p1 <;> first | exact p1.elim | skip
    exact ⟨_, int_of r1 q1 h1, Ke.fin p1 r1 rfl rfl⟩
  · exact p1.elim

/-! ### subscripts -/
def ixD : D → D → Option D
  | .tup xs, .int i => atI xs i
  | .lst _ xs, .int i => atI xs i
  | .ro xs, .int i => atI xs i
  | .str z, .int i => if fits z.length then (atI z.cps.toList i).map fun c => .str ⟨#[c]⟩ else none
  | .dct _ ks xs, d => d.key.bind (dgetD ks xs)
  | _, _ => none
/-- an item of a container is shared data -/
def ixK (e1 e2 : EV) (s : Sl) : R EV := match evR e1 s, evR e2 s with
  | some d1, some d2 => match ixD d1 d2 with
    | some d => if d.own then .no else .ok (.val d) s
    | none => .no
  | _, _ => .no
theorem RepFs.atI {F : Hp} {ds : List D} {vs : List V} {i : Int} {d : D} (h : RepFs X.K cA F ds vs) (e : atI ds i = some d) : ∃ v, L2.atI vs i = some v ∧ RepF X.K cA F d v := by
  have e : (ixN ds.length i).bind (fun j => ds[j]?) = some d := e
  obtain ⟨j, e1, e2⟩ := Option.bind_eq_some_iff.mp e
  obtain ⟨v, e3, q⟩ := h.get e2
  refine ⟨v, ?_, q⟩
  show (ixN vs.length i).bind (fun j => vs[j]?) = some v
  rw [← h.length, e1]
  exact e3
def rIxDct : R2 := fun x y H Q => ∃ a v, x = .ref a ∧ DGet H a y (some v) ∧ Q v H
theorem ix_dct (hu : X.A.units + 130 < cLine) : IxR X rIxDct := by
  intro value slice pins s σ H x y v u Q I rx ry h hs
  obtain ⟨a, w, rfl, g, q⟩ := h
  obtain rfl : v = Value.ref a := rx
  exact tail_any (dict_typeIs I g) PySem.F.slot_dict_getitem.lookup (d_getItem (by omega) I g ry fun w' s3 I3 rw' => ⟨w, H, I3, rw', q⟩) hs
theorem se_ix (hu : X.A.units + 130 < cLine) (ha : SE X cA W a f) (hb : SE X cA W b g) (hs : notSlice b = true) : SE X cA W (.Subscript a b pos) (bin2 f g ixK) := by
  refine PE_mono (pe_ix (ix_seq.or (ix_dct hu)) ha hb (plainIx hs)) fun σ H Q h => ?_
  have z := bin_run (C := fun F => KE X.K cA W F σ Q) KE_mono h
  obtain ⟨F, fp, s, rl, p⟩ := z
  refine ⟨F, fp, s, rl, Po.up (Same.refl _) p fun ev s' _ z x H1 F' fp' g' r' q' => ?_⟩
  obtain ⟨F2, fp2, s2, r2, p2⟩ := z x H1 F' fp' g' r' q'
  refine ⟨F2, fp2, s2, r2, Po.up (Same.refl _) p2 fun ev s' _ z y H2 F' fp' g' r' q' => ?_⟩
  obtain ⟨F, fp, s, e1, e2, r, q1, q2, p⟩ := z y H2 F' fp' g' r' q'
  unfold ixK at p
  split at p
  · rename_i d1 d2 h1 h2
    split at p
    · rename_i d hd
      split at p
      · exact p.elim
      · rename_i ho
        have ho : d.own = false := by simpa using ho
        by_cases hdc : ∃ o ks xs, d1 = .dct o ks xs
        · obtain ⟨o, ks, xs, rfl⟩ := hdc
          have hd : d2.key.bind (dgetD ks xs) = some d := hd
          obtain ⟨key, hk, hd⟩ := Option.bind_eq_some_iff.mp hd
          obtain ⟨a, rfl, g1, _⟩ := dget_of r q2 q1 h2 h1 hk
          obtain ⟨v, g, q⟩ := g1 d hd
          exact .inr ⟨a, v, rfl, g, Ke.fin p r ho q⟩
        refine .inl ?_
        cases d1 <;> first | (exact (hdc ⟨_, _, _, rfl⟩).elim) | skip
        all_goals cases d2 <;> simp only [ixD, reduceCtorEq] at hd
        · rename_i z i
          split at hd
          · rename_i hf
            obtain ⟨c, hc, rfl⟩ := Option.map_eq_some_iff.mp hd
            exact .inr (.inr ⟨z, i, c, str_of r q1 h1, int_of r q2 h2, Nat.le_trans (fits_le hf) LN_le, hc, Ke.fin p r rfl rfl⟩)
          · cases hd
        · obtain ⟨a, vs, rfl, m1, n1⟩ := Ep.flat r q1 h1 rfl
          obtain ⟨v, hv, q⟩ := n1.atI hd
          exact .inr (.inl ⟨a, vs, _, v, rfl, int_of r q2 h2, SqT_mono m1 r.fz, hv, Ke.fin p r ho q⟩)
        · obtain ⟨a, vs, rfl, m1, n1⟩ := Ep.list r q1 h1
          obtain ⟨v, hv, q⟩ := n1.atI hd
          exact .inl ⟨a, vs, _, v, rfl, int_of r q2 h2, .of m1, hv, Ke.fin p r ho q⟩
        · obtain ⟨a, vs, rfl, m1, n1⟩ := Ep.flat r q1 h1 rfl
          obtain ⟨v, hv, q⟩ := n1.atI hd
          exact .inl ⟨a, vs, _, v, rfl, int_of r q2 h2, r.fz.seq m1, hv, Ke.fin p r ho q⟩
    · exact p.elim
  · exact p.elim

/-! ### slices -/
def cutD (xs : List D) (lo hi : Option Int) : List D := (xs.drop (HT.sIx xs.length 0 lo)).take (HT.sIx xs.length xs.length hi - HT.sIx xs.length 0 lo)
theorem RepFs.cut {F : Hp} {ds : List D} {vs : List V} (h : RepFs X.K cA F ds vs) (lo hi : Option Int) : RepFs X.K cA F (cutD ds lo hi) (cutV vs lo hi) := by
  unfold cutD cutV
  rw [h.length]
  exact (h.drop _).take _
def slD (d : D) (lo hi : Option Int) : Option D := match d with
  | .tup xs => some (.tup (cutD xs lo hi))
  | .lst _ xs => some (.lst true (cutD xs lo hi))
  | .str z => if fits z.length then some (.str (cutS z lo hi)) else none
  | _ => none
/-- a part of a slice -/
def partE : Option (Sl → R EV) → Sl → R (Option Int)
  | none, s => .ok none s
  | some f, s => penE f (fun e s1 => match evR e s1 with
    | some (.int i) => .ok (some i) s1
    | _ => .no) s
def slE (f : Sl → R EV) (lo hi : Option (Sl → R EV)) : Sl → R EV := penE f fun e s => (partE lo s).bind fun l s1 => (partE hi s1).bind fun u s2 => match evR e s2 with
  | some d => match slD d l u with
    | some d' => .ok (.val d') s2
    | none => .no
  | none => .no
def tP (X : Cx) (cA : Nat → Addr) (W : Gx) (f : Sl → R (Option Int)) : TO := fun σ H Q => ∃ F fp s, Rl X.K cA F W.P W.pn fp s σ H ∧ Po X.K cA W F σ (f s) (fun o s' => ∀ H' F' fp', Same F F' → Rl X.K cA F' W.P W.pn fp' s' σ H' → Q o H')
theorem PO_mono {o : Option Expr} {t t' : TO} (h : PO X o t) (w : ∀ σ H Q, t' σ H Q → t σ H Q) : PO X o t' := ⟨fun pins s σ H Q I q => h.run pins s σ H Q I (w σ H Q q)⟩
theorem sp_none : PO X none (tP X cA W (partE none)) := by
  refine PO_mono po_none fun σ H Q h => ?_
  obtain ⟨F, fp, s, r, p⟩ := h
  exact p H F fp (Same.refl F) r
theorem sp_some (ha : SE X cA W a f) : PO X (some a) (tP X cA W (partE (some f))) := by
  refine PO_mono (po_some ha) fun σ H Q h => ?_
  obtain ⟨F, fp, s, r, p⟩ := h
  have z := one_run (W := W) (f := f) (k := fun e s1 => match evR e s1 with
    | some (.int i) => .ok (some i) s1
    | _ => .no) (C := fun F (o : Option Int) s' => ∀ H' F' fp', Same F F' → Rl X.K cA F' W.P W.pn fp' s' σ H' → Q o H') (fun F F' b s g h H' F2 fp' g2 => h H' F2 fp' (g.trans g2)) ⟨F, fp, s, r, p⟩
  obtain ⟨F, fp, s, rl, p⟩ := z
  refine ⟨F, fp, s, rl, Po.up (Same.refl _) p fun ev s' _ z x H1 F' fp' g' r' q' => ?_⟩
  obtain ⟨F1, fp1, s1, e1, r1, q1, p1⟩ := z x H1 F' fp' g' r' q'
  dsimp only at p1
  split at p1
  · rename_i i h1
    exact ⟨i, int_of r1 q1 h1, p1 H1 F1 fp1 (Same.refl _) r1⟩
  · exact p1.elim
theorem se_sl {lo hi : Option Expr} {fl fh : Option (Sl → R EV)} {p2 : Pos} (ha : SE X cA W a f) (hl : PO X lo (tP X cA W (partE fl))) (hh : PO X hi (tP X cA W (partE fh))) : SE X cA W (.Subscript a (.Slice lo hi none p2) pos) (slE f fl fh) := by
  refine PE_mono (pe_slice ((sl_tupA.or sl_list).or sl_str) ha hl hh) fun σ H Q h => ?_
  have z := one_run (C := fun F => KE X.K cA W F σ Q) KE_mono h
  obtain ⟨F, fp, s, rl, p⟩ := z
  refine ⟨F, fp, s, rl, Po.up (Same.refl _) p fun ev s' _ z x H1 F' fp' g' r' q' => ?_⟩
  obtain ⟨F1, fp1, s1, e1, r1, q1, p1⟩ := z x H1 F' fp' g' r' q'
  refine ⟨F1, fp1, s1, r1, Po.bind p1 fun l s2 _ p2 H2 F2 fp2 g2 r2 => ?_⟩
  refine ⟨F2, fp2, s2, r2, Po.bind (Po.up g2 p2 fun _ _ _ z => KE_mono _ _ _ _ g2 z) fun u s3 _ p3 H3 F3 fp3 g3 r3 => ?_⟩
  have q3 := (q1.mono g2).mono g3
  split at p3
  · rename_i d hd
    split at p3
    · rename_i d' hd'
      have p4 : KE X.K cA W F3 σ Q (.val d') s3 := KE_mono _ _ _ _ g3 p3
      cases d <;> simp only [slD, reduceCtorEq] at hd'
      · rename_i z
        split at hd'
        · rename_i hf
          cases hd'
          cases str_of r3 q3 hd
          exact .inr ⟨z, rfl, Nat.le_trans (fits_le hf) LN_le, Ke.fin p4 r3 rfl rfl⟩
        · cases hd'
      · cases hd'
        obtain ⟨a, vs, rfl, m1, n1⟩ := Ep.flat r3 q3 hd rfl
        refine .inl <| .inl ⟨a, vs, rfl, SqT_mono m1 r3.fz, fun hw => ?_, fun _ p hp => Ke.tup p4 r3 hp (n1.cut l u)⟩
        refine Ke.fin p4 r3 rfl ⟨a, vs, rfl, m1, ?_⟩
        have z := n1.cut l u
        have e : cutV vs l u = vs := by
          unfold cutV
          rw [hw.1, hw.2, List.drop_zero, Nat.sub_zero, List.take_length]
        rw [e] at z
        exact z
      · cases hd'
        obtain ⟨a, vs, rfl, m1, n1⟩ := Ep.list r3 q3 hd
        exact .inl <| .inr ⟨a, vs, rfl, .of m1, fun p hp => Ke.list p4 r3 hp (n1.cut l u)⟩
    · exact p3.elim
  · exact p3.elim
end
end NS
namespace NS
open PySem PySem.Spec PyProof.Rows L2

/-! ## 7. built-in calls -/
def rdArgs : List EV → Sl → Option (List D)
  | [], _ => some []
  | e :: es, s => (evR e s).bind fun d => (rdArgs es s).bind fun ds => some (d :: ds)
def bltK (op : List D → Option D) (es : List EV) (s : Sl) : R EV := match rdArgs es s with
  | some ds => match op ds with
    | some d => .ok (.val d) s
    | none => .no
  | none => .no
def bltE (op : List D → Option D) (fs : List (Sl → R EV)) : Sl → R EV := fun s => (argsE fs s).bind (bltK op)
inductive BI where
  | len | int | str | list | tuple | max | min | sum | any | all
  deriving DecidableEq
def BI.name : BI → Str
  | .len => "len" | .int => "int" | .str => "str" | .list => "list" | .tuple => "tuple" | .max => "max" | .min => "min" | .sum => "sum" | .any => "any" | .all => "all"
def BI.of (x : Str) : Option BI := [BI.len, .int, .str, .list, .tuple, .max, .min, .sum, .any, .all].find? fun b => b.name == x
def BI.val : BI → Value
  | .len => .builtin "len" | .int => .type "int" | .str => .type "str" | .list => .type "list" | .tuple => .type "tuple" | .max => .builtin "max" | .min => .builtin "min" | .sum => .builtin "sum" | .any => .builtin "any" | .all => .builtin "all"
def dints : List D → Option (List Int)
  | [] => some []
  | .int i :: ds => (dints ds).map (i :: ·)
  | _ => none
def dbools : List D → Option (List Bool)
  | [] => some []
  | .bl i :: ds => (dbools ds).map (i :: ·)
  | _ => none
def lmax : List Int → Option Int
  | [] => none
  | x :: r => match lmax r with
    | none => some x
    | some y => some (if x < y then y else x)
def lmin : List Int → Option Int
  | [] => none
  | x :: r => match lmin r with
    | none => some x
    | some y => some (if y < x then y else x)
def D.seq : D → Option (List D)
  | .lst _ xs => some xs
  | .ro xs => some xs
  | _ => none
def maxD : List D → Option D
  | [d] => (d.seq.bind dints).bind fun ns => (lmax ns).map .int
  | [d1, d2] => match d1, d2 with
    | .int i, .int j => some (.int (if j > i then j else i))
    | _, _ => none
  | _ => none
def minD : List D → Option D
  | [d] => (d.seq.bind dints).bind fun ns => (lmin ns).map .int
  | [d1, d2] => match d1, d2 with
    | .int i, .int j => some (.int (if j < i then j else i))
    | _, _ => none
  | _ => none
def BI.op : BI → List D → Option D
  | .len, [.str x] => if fits x.length then some (.int x.length) else none
  | .len, [.tup xs] => some (.int xs.length)
  | .len, [.lst _ xs] => some (.int xs.length)
  | .len, [.ro xs] => some (.int xs.length)
  | .int, [.int i] => some (.int i)
  | .int, [.bl b] => some (.int (if b then 1 else 0))
  | .int, [.str x] => if fits x.length && Nat.ble x.length 640 then (PySem.intText? x).map .int else none
  | .str, [.int i] => if decide (0 ≤ i) && decide (i ≤ 1000000000) then some (.str (toString i : String)) else none
  | .str, [.str x] => some (.str x)
  | .list, [.tup xs] => some (.lst true xs)
  | .list, [.lst _ xs] => some (.lst true xs)
  | .list, [.ro xs] => some (.lst true xs)
  | .list, [.str x] => if fits x.length then some (.lst true (x.cps.toList.map fun c => .str ⟨#[c]⟩)) else none
  | .tuple, [.tup xs] => some (.tup xs)
  | .tuple, [.lst _ xs] => some (.tup xs)
  | .max, ds => maxD ds
  | .min, ds => minD ds
  | .sum, [d] => (d.seq.bind dints).map fun ns => .int ns.sum
  | .any, [d] => (d.seq.bind dbools).map fun bs => .bl (bs.any id)
  | .all, [d] => (d.seq.bind dbools).map fun bs => .bl (bs.all id)
  | _, _ => none

section
variable {X : Cx} {cA : Nat → Addr} {W : Gx} {e a b c : Expr} {es : List Expr} {f g h : Sl → R EV} {pos : Pos}
/-- a call's rule r serves op -/
def CallOk (X : Cx) (cA : Nat → Addr) (W : Gx) (op : List D → Option D) (r : List V → Hp → VK → Prop) : Prop :=
  ∀ (F : Hp) (fp : Nat → List Addr) (s : Sl) (σ : L2.St) (H : Hp) (es : List EV) (ds : List D) (d : D) (vs : List V) (Q : VK), Rl X.K cA F W.P W.pn fp s σ H → Eps X.K cA F σ vs es → rdArgs es s = some ds → op ds = some d →
    KE X.K cA W F σ Q (.val d) s → r vs H Q
theorem args_call {op : List D → Option D} {r : List V → Hp → VK → Prop} {fs : List (Sl → R EV)} (ho : CallOk X cA W op r) {σ : L2.St} {H : Hp} {Q : VK} (h : tE X.K cA W (bltE op fs) σ H Q) : tA X.K cA W (argsE fs) σ H fun vs H1 => r vs H1 Q := by
  obtain ⟨F, fp, s, rl, p⟩ := h
  refine ⟨F, fp, s, rl, Po.bind p fun es1 s1 _ p1 vs H1 F1 fp1 g1 r1 q1 => ?_⟩
  unfold bltK at p1
  split at p1
  · rename_i ds hds
    split at p1
    · rename_i d hd
      exact ho F1 fp1 s1 σ H1 es1 ds d vs Q r1 q1 hds hd (KE_mono _ _ _ _ g1 p1)
    · exact p1.elim
  · exact p1.elim
theorem se_callB {op : List D → Option D} {r : List V → Hp → VK → Prop} {fs : List (Sl → R EV)} {x : Str} {id : String} {p : Pos} (hc : CallR X (.builtin id) r) (ho : CallOk X cA W op r) (hg : Gl X x) (hm : X.mg x = none) (hv : bootBuiltins x = some (.builtin id)) (ha : SA X cA W (e :: es) (argsE fs))
    (hn : x ≠ "__name__") (hdb : (x == ("__debug__" : Str)) = false) (hs : (e :: es).all noStar = true) : SE X cA W (.Call (.Name x p) (e :: es) [] pos) (bltE op fs) := by
  rw [List.all_cons, Bool.and_eq_true] at hs
  exact PE_mono (pe_callB hc hg hm hv ha hn hdb (starEach_cons hs.1) (back_plain hs.2)) fun σ H Q h => args_call ho h
theorem se_callTy {op : List D → Option D} {r : List V → Hp → VK → Prop} {fs : List (Sl → R EV)} {x : Str} {T : String} {p : Pos} (hc : CallR X (.type T) r) (ho : CallOk X cA W op r) (hg : Gl X x) (hm : X.mg x = none) (hv : bootBuiltins x = some (.type T)) (ha : SA X cA W (e :: es) (argsE fs))
    (hn : x ≠ "__name__") (hdb : (x == ("__debug__" : Str)) = false) (hs : (e :: es).all noStar = true) : SE X cA W (.Call (.Name x p) (e :: es) [] pos) (bltE op fs) := by
  rw [List.all_cons, Bool.and_eq_true] at hs
  exact PE_mono (pe_callTy hc hg hm hv ha hn hdb (starEach_cons hs.1) (back_plain hs.2)) fun σ H Q h => args_call ho h

/-! ### reading arguments -/
theorem Eps.nil {F : Hp} {σ : L2.St} {vs : List V} {s : Sl} {es : List EV} (h : Eps X.K cA F σ vs es) (e : rdArgs es s = some []) : vs = [] ∧ es = [] := by
  cases es with
  | nil =>
    cases vs with
    | nil => exact ⟨rfl, rfl⟩
    | cons v vs => obtain ⟨_, _, z, _⟩ := h; cases z
  | cons ev es =>
    obtain ⟨d, _, e⟩ := Option.bind_eq_some_iff.mp e
    obtain ⟨ds, _, e⟩ := Option.bind_eq_some_iff.mp e
    cases e
theorem Eps.cons {F : Hp} {σ : L2.St} {vs : List V} {s : Sl} {es : List EV} {d : D} {ds : List D} (h : Eps X.K cA F σ vs es) (e : rdArgs es s = some (d :: ds)) : ∃ v vr ev er, vs = v :: vr ∧ es = ev :: er ∧ Ep X.K cA F σ v ev ∧ evR ev s = some d ∧ Eps X.K cA F σ vr er ∧ rdArgs er s = some ds := by
  cases es with
  | nil => cases e
  | cons ev es =>
    obtain ⟨d', e1, e⟩ := Option.bind_eq_some_iff.mp e
    obtain ⟨ds', e2, e⟩ := Option.bind_eq_some_iff.mp e
    cases e
    cases vs with
    | nil =>
      have h : ev :: es = [] := h
      cases h
    | cons v vs =>
      obtain ⟨_, _, z, q1, q2⟩ := h
      cases z
      exact ⟨v, vs, ev, es, rfl, rfl, q1, e1, q2, e2⟩
theorem Eps.one {F : Hp} {σ : L2.St} {vs : List V} {s : Sl} {es : List EV} {d : D} (h : Eps X.K cA F σ vs es) (e : rdArgs es s = some [d]) : ∃ v ev, vs = [v] ∧ es = [ev] ∧ Ep X.K cA F σ v ev ∧ evR ev s = some d := by
  obtain ⟨v, vr, ev, er, rfl, rfl, q1, e1, q2, e2⟩ := h.cons e
  obtain ⟨rfl, rfl⟩ := q2.nil e2
  exact ⟨v, ev, rfl, rfl, q1, e1⟩
theorem Eps.two {F : Hp} {σ : L2.St} {vs : List V} {s : Sl} {es : List EV} {d d' : D} (h : Eps X.K cA F σ vs es) (e : rdArgs es s = some [d, d']) : ∃ v v' ev ev', vs = [v, v'] ∧ es = [ev, ev'] ∧ Ep X.K cA F σ v ev ∧ evR ev s = some d ∧ Ep X.K cA F σ v' ev' ∧ evR ev' s = some d' := by
  obtain ⟨v, vr, ev, er, rfl, rfl, q1, e1, q2, e2⟩ := h.cons e
  obtain ⟨v', ev', rfl, rfl, q3, e3⟩ := q2.one e2
  exact ⟨v, v', ev, ev', rfl, rfl, q1, e1, q3, e3⟩
theorem dints_ok {F : Hp} : ∀ {ds : List D} {ns : List Int} {vs : List V}, dints ds = some ns → RepFs X.K cA F ds vs → vs = ns.map V.int
  | [], ns, vs, e, h => by
    cases e
    cases (show vs = [] from h)
    rfl
  | d :: ds, ns, vs, e, h => by
    obtain ⟨v, r, rfl, h2, h3⟩ := h
    cases d <;> simp only [dints, reduceCtorEq] at e
    obtain ⟨ms, e1, rfl⟩ := Option.map_eq_some_iff.mp e
    rw [dints_ok e1 h3]
    cases (show v = _ from h2)
    rfl
theorem dbools_ok {F : Hp} : ∀ {ds : List D} {ns : List Bool} {vs : List V}, dbools ds = some ns → RepFs X.K cA F ds vs → vs = ns.map V.bl
  | [], ns, vs, e, h => by
    cases e
    cases (show vs = [] from h)
    rfl
  | d :: ds, ns, vs, e, h => by
    obtain ⟨v, r, rfl, h2, h3⟩ := h
    cases d <;> simp only [dbools, reduceCtorEq] at e
    obtain ⟨ms, e1, rfl⟩ := Option.map_eq_some_iff.mp e
    rw [dbools_ok e1 h3]
    cases (show v = _ from h2)
    rfl
/-- a sequence that is read -/
theorem Ep.seq {F H : Hp} {fp : Nat → List Addr} {s : Sl} {σ : L2.St} {v : V} {ev : EV} {d : D} {xs : List D} (r : Rl X.K cA F W.P W.pn fp s σ H) (h : Ep X.K cA F σ v ev) (e : evR ev s = some d) (q : d.seq = some xs) : ∃ a vs, v = .ref a ∧ SqL X.K H a vs ∧ RepFs X.K cA F xs vs := by
  cases d <;> simp only [D.seq, reduceCtorEq, Option.some.injEq] at q
  · subst q
    obtain ⟨a, vs, rfl, m, n⟩ := Ep.list r h e
    exact ⟨a, vs, rfl, .of m, n⟩
  · subst q
    obtain ⟨a, vs, rfl, m, n⟩ := Ep.flat r h e rfl
    exact ⟨a, vs, rfl, r.fz.seq m, n⟩
theorem lmax_spec : ∀ {ns : List Int} {m : Int}, lmax ns = some m → m ∈ ns ∧ ∀ y ∈ ns, y ≤ m
  | [], m, h => by cases h
  | x :: r, m, h => by
    simp only [lmax] at h
    cases e : lmax r with
    | none =>
      rw [e] at h
      cases h
      have : r = [] := by
        cases r with
        | nil => rfl
        | cons y r => simp only [lmax] at e; split at e <;> cases e
      subst this
      exact ⟨by simp, by simp⟩
    | some y =>
      rw [e] at h
      obtain ⟨h1, h2⟩ := lmax_spec e
      have h : some (if x < y then y else x) = some m := h
      by_cases c : x < y
      · rw [if_pos c] at h
        cases h
        refine ⟨List.mem_cons_of_mem _ h1, fun z hz => ?_⟩
        rcases List.mem_cons.mp hz with rfl | hz
        · omega
        · exact h2 z hz
      · rw [if_neg c] at h
        cases h
        refine ⟨by simp, fun z hz => ?_⟩
        rcases List.mem_cons.mp hz with rfl | hz
        · omega
        · have := h2 z hz; omega
theorem lmin_spec : ∀ {ns : List Int} {m : Int}, lmin ns = some m → m ∈ ns ∧ ∀ y ∈ ns, m ≤ y
  | [], m, h => by cases h
  | x :: r, m, h => by
    simp only [lmin] at h
    cases e : lmin r with
    | none =>
      rw [e] at h
      cases h
      have : r = [] := by
        cases r with
        | nil => rfl
        | cons y r => simp only [lmin] at e; split at e <;> cases e
      subst this
      exact ⟨by simp, by simp⟩
    | some y =>
      rw [e] at h
      obtain ⟨h1, h2⟩ := lmin_spec e
      have h : some (if y < x then y else x) = some m := h
      by_cases c : y < x
      · rw [if_pos c] at h
        cases h
        refine ⟨List.mem_cons_of_mem _ h1, fun z hz => ?_⟩
        rcases List.mem_cons.mp hz with rfl | hz
        · omega
        · exact h2 z hz
      · rw [if_neg c] at h
        cases h
        refine ⟨by simp, fun z hz => ?_⟩
        rcases List.mem_cons.mp hz with rfl | hz
        · omega
        · have := h2 z hz; omega

/-! ### list of a text -/
theorem vals_signs {x : Str} {acc : Array Value} (h : ItemsOf (SignAt x) acc x.cps.size) : Vals (x.cps.toList.map fun c => V.str ⟨#[c]⟩) acc.toList := by
  refine vals_of_at (by rw [List.length_map]; simp [h.1]) fun j v u e1 e2 => ?_
  obtain ⟨c, t, hc, rfl⟩ := h.2 j u (by simpa using e2)
  rw [List.getElem?_map] at e1
  have hc' : x.cps.toList[j]? = some c := by simpa using hc
  rw [hc'] at e1
  cases e1
  exact ⟨t, rfl⟩
def rListS : List V → Hp → VK → Prop := fun xs H Q => ∃ x, xs = [.str x] ∧ x.length ≤ sizeLine ∧ ∀ p, H p = none → Q (.ref p) (upd H p (.lst (x.cps.toList.map fun c => V.str ⟨#[c]⟩)))
theorem call_listS (hc : X.calm = true) : CallR X (.type "list") rListS := by
  intro pins s σ H xs us Q I r h
  obtain ⟨x, rfl, hz, q⟩ := h
  obtain ⟨u, rfl, ru⟩ := Vals.one r
  obtain ⟨t, rfl⟩ := ru
  refine PySem.call_list_str (I.ok.hd hc) x t (fun h' tk acc' c' hk hS hacc => ?_) hz
  refine ⟨.ref s.heap.objs.size, _, I.laid (t' := tk) (o := .lst (x.cps.toList.map fun c => V.str ⟨#[c]⟩)) hk (Nat.le_refl _) ⟨?_, acc'.toList, c', vals_signs hacc, ?_⟩, rfl, q _ (I.hok.fresh (Nat.le_refl _))⟩
  · rw [List.length_map]
    exact hz
  · rw [hS]
end
end NS
namespace NS
open PySem PySem.Spec PyProof.Rows L2
section
variable {X : Cx} {cA : Nat → Addr} {W : Gx} {e a b c : Expr} {es : List Expr} {f g h : Sl → R EV} {pos : Pos}

abbrev rLenA (K : PySem.W.Frag) : List V → Hp → VK → Prop := fun xs H Q => (∃ x n, xs = [x] ∧ LenV K x H n ∧ Q (.int n) H) ∨ ∃ a kvs, xs = [V.ref a] ∧ H a = some (.dK kvs) ∧ Q (.int kvs.length) H
theorem len_ok : CallOk X cA W (BI.op .len) (rLenA X.K) := by
  intro F fp s σ H es ds d vs Q r q hd ho k
  rcases ds with _ | ⟨d1, _ | ⟨d2, ds⟩⟩
  · cases ho
  · obtain ⟨v, ev, rfl, rfl, q1, h1⟩ := q.one hd
    cases d1 <;> simp only [BI.op, reduceCtorEq] at ho
    · split at ho
      · rename_i hf
        cases ho
        cases str_of r q1 h1
        exact .inl ⟨_, _, rfl, ⟨Nat.le_trans (fits_le hf) LN_le, rfl⟩, Ke.fin k r rfl rfl⟩
      · cases ho
    · cases ho
      obtain ⟨a, vs, rfl, m1, n1⟩ := Ep.flat r q1 h1 rfl
      rw [n1.length] at k
      exact .inl ⟨_, _, rfl, .inr ⟨vs, SqT_mono m1 r.fz, rfl⟩, Ke.fin k r rfl rfl⟩
    · cases ho
      obtain ⟨a, vs, rfl, m1, n1⟩ := Ep.list r q1 h1
      rw [n1.length] at k
      exact .inl ⟨_, _, rfl, .inl ⟨vs, .of m1, rfl⟩, Ke.fin k r rfl rfl⟩
    · cases ho
      obtain ⟨a, vs, rfl, m1, n1⟩ := Ep.flat r q1 h1 rfl
      rw [n1.length] at k
      exact .inl ⟨_, _, rfl, .inl ⟨vs, r.fz.seq m1, rfl⟩, Ke.fin k r rfl rfl⟩
  · simp only [BI.op, reduceCtorEq] at ho
abbrev rIntA : List V → Hp → VK → Prop := fun xs H Q => ((∃ i, xs = [.int i] ∧ Q (.int i) H) ∨ ∃ k, xs = [.bl k] ∧ Q (.int (if k then 1 else 0)) H) ∨ ∃ a n, xs = [.str a] ∧ PySem.intText? a = some n ∧ a.length ≤ 640 ∧ Q (.int n) H
theorem int_ok : CallOk X cA W (BI.op .int) rIntA := by
  intro F fp s σ H es ds d vs Q r q hd ho k
  rcases ds with _ | ⟨d1, _ | ⟨d2, ds⟩⟩
  · cases ho
  · obtain ⟨v, ev, rfl, rfl, q1, h1⟩ := q.one hd
    cases d1 <;> simp only [BI.op, reduceCtorEq] at ho
    · cases ho
      cases bl_of r q1 h1
      exact .inl (.inr ⟨_, rfl, Ke.fin k r rfl rfl⟩)
    · cases ho
      cases int_of r q1 h1
      exact .inl (.inl ⟨_, rfl, Ke.fin k r rfl rfl⟩)
    · split at ho
      · rename_i hf
        rw [Bool.and_eq_true] at hf
        obtain ⟨n, hn, rfl⟩ := Option.map_eq_some_iff.mp ho
        cases str_of r q1 h1
        exact .inr ⟨_, n, rfl, hn, Nat.le_of_ble_eq_true hf.2, Ke.fin k r rfl rfl⟩
      · cases ho
  · simp only [BI.op, reduceCtorEq] at ho
abbrev rStrA : List V → Hp → VK → Prop := fun xs H Q => (∃ i, xs = [.int i] ∧ i.natAbs.log2 < 1920 ∧ Q (.str (toString i)) H) ∨ ∃ a, xs = [.str a] ∧ Q (.str a) H
theorem str_ok : CallOk X cA W (BI.op .str) rStrA := by
  intro F fp s σ H es ds d vs Q r q hd ho k
  rcases ds with _ | ⟨d1, _ | ⟨d2, ds⟩⟩
  · cases ho
  · obtain ⟨v, ev, rfl, rfl, q1, h1⟩ := q.one hd
    cases d1 <;> simp only [BI.op, reduceCtorEq] at ho
    · split at ho
      · rename_i i hf
        rw [Bool.and_eq_true] at hf
        cases ho
        cases int_of r q1 h1
        have z1 := of_decide_eq_true hf.1
        have z2 := of_decide_eq_true hf.2
        refine .inl ⟨_, rfl, ?_, Ke.fin k r rfl rfl⟩
        by_cases h0 : i.natAbs = 0
        · rw [h0]
          decide
        · refine (Nat.log2_lt h0).mpr (Nat.lt_of_lt_of_le (show i.natAbs < 2 ^ 31 by omega) (Nat.pow_le_pow_right (by decide) (by decide)))
      · cases ho
    · cases ho
      cases str_of r q1 h1
      exact .inr ⟨_, rfl, Ke.fin k r rfl rfl⟩
  · simp only [BI.op, reduceCtorEq] at ho
abbrev rListA (K : PySem.W.Frag) : List V → Hp → VK → Prop := fun xs H Q => (∃ p ys, xs = [.ref p] ∧ (SqL K H p ys ∨ SqT K H p ys) ∧ ∀ l, H l = none → Q (.ref l) (upd H l (.lst ys))) ∨ rListS xs H Q
theorem RepFs.signs {F : Hp} : ∀ (l : List Nat), RepFs X.K cA F (l.map fun c => .str ⟨#[c]⟩) (l.map fun c => V.str ⟨#[c]⟩)
  | [] => rfl
  | c :: l => ⟨_, _, rfl, rfl, RepFs.signs l⟩
theorem list_ok : CallOk X cA W (BI.op .list) (rListA X.K) := by
  intro F fp s σ H es ds d vs Q r q hd ho k
  rcases ds with _ | ⟨d1, _ | ⟨d2, ds⟩⟩
  · cases ho
  · obtain ⟨v, ev, rfl, rfl, q1, h1⟩ := q.one hd
    cases d1 <;> simp only [BI.op, reduceCtorEq] at ho
    · split at ho
      · rename_i hf
        cases ho
        cases str_of r q1 h1
        exact .inr ⟨_, rfl, Nat.le_trans (fits_le hf) LN_le, fun p hp => Ke.list k r hp (RepFs.signs _)⟩
      · cases ho
    · cases ho
      obtain ⟨a, vs, rfl, m1, n1⟩ := Ep.flat r q1 h1 rfl
      exact .inl ⟨_, _, rfl, .inr (SqT_mono m1 r.fz), fun p hp => Ke.list k r hp n1⟩
    · cases ho
      obtain ⟨a, vs, rfl, m1, n1⟩ := Ep.list r q1 h1
      exact .inl ⟨_, _, rfl, .inl (.of m1), fun p hp => Ke.list k r hp n1⟩
    · cases ho
      obtain ⟨a, vs, rfl, m1, n1⟩ := Ep.flat r q1 h1 rfl
      exact .inl ⟨_, _, rfl, .inl (r.fz.seq m1), fun p hp => Ke.list k r hp n1⟩
  · simp only [BI.op, reduceCtorEq] at ho
abbrev rTupA (K : PySem.W.Frag) : List V → Hp → VK → Prop := fun xs H Q => ∃ p ys, xs = [.ref p] ∧ ((SqL K H p ys ∧ ∀ l, H l = none → Q (.ref l) (upd H l (.tup ys))) ∨ (SqT K H p ys ∧ Q (.ref p) H))
theorem tuple_ok : CallOk X cA W (BI.op .tuple) (rTupA X.K) := by
  intro F fp s σ H es ds d vs Q r q hd ho k
  rcases ds with _ | ⟨d1, _ | ⟨d2, ds⟩⟩
  · cases ho
  · obtain ⟨v, ev, rfl, rfl, q1, h1⟩ := q.one hd
    cases d1 <;> simp only [BI.op, reduceCtorEq] at ho
    · cases ho
      obtain ⟨a, vs, rfl, m1, n1⟩ := Ep.flat r q1 h1 rfl
      exact ⟨_, _, rfl, .inr ⟨SqT_mono m1 r.fz, Ke.fin k r rfl ⟨a, vs, rfl, m1, n1⟩⟩⟩
    · cases ho
      obtain ⟨a, vs, rfl, m1, n1⟩ := Ep.list r q1 h1
      exact ⟨_, _, rfl, .inl ⟨.of m1, fun p hp => Ke.tup k r hp n1⟩⟩
  · simp only [BI.op, reduceCtorEq] at ho
abbrev rMaxA (K : PySem.W.Frag) : List V → Hp → VK → Prop := fun xs H Q => (∃ i j, xs = [.int i, .int j] ∧ Q (.int (if j > i then j else i)) H) ∨ rMax K xs H Q
abbrev rMinA (K : PySem.W.Frag) : List V → Hp → VK → Prop := fun xs H Q => (∃ i j, xs = [.int i, .int j] ∧ Q (.int (if j < i then j else i)) H) ∨ rMin K xs H Q
theorem max_ok : CallOk X cA W (BI.op .max) (rMaxA X.K) := by
  intro F fp s σ H es ds d vs Q r q hd ho k
  have ho : maxD ds = some d := ho
  rcases ds with _ | ⟨d1, _ | ⟨d2, _ | ⟨d3, ds⟩⟩⟩
  · cases ho
  · have ho : (d1.seq.bind dints).bind (fun ns => (lmax ns).map .int) = some d := ho
    obtain ⟨ns, hns, ho⟩ := Option.bind_eq_some_iff.mp ho
    obtain ⟨m, hm, rfl⟩ := Option.map_eq_some_iff.mp ho
    obtain ⟨xs, hx, hn⟩ := Option.bind_eq_some_iff.mp hns
    obtain ⟨v, ev, rfl, rfl, q1, h1⟩ := q.one hd
    obtain ⟨a, vs, rfl, m1, n1⟩ := Ep.seq r q1 h1 hx
    cases dints_ok hn n1
    obtain ⟨s1, s2⟩ := lmax_spec hm
    refine .inr ⟨a, ns, rfl, m1, ?_, fun m' h1 h2 => ?_⟩
    · exact List.length_pos_of_mem s1
    · have : m' = m := Int.le_antisymm ((s2 m' h1)) ((h2 m s1))
      subst this
      exact Ke.fin k r rfl rfl
  · cases d1 <;> cases d2 <;> simp only [maxD, reduceCtorEq] at ho
    cases ho
    obtain ⟨v, v', ev, ev', rfl, rfl, q1, h1, q2, h2⟩ := q.two hd
    exact .inl ⟨_, _, by rw [int_of r q1 h1, int_of r q2 h2], Ke.fin k r rfl rfl⟩
  · cases ho
theorem min_ok : CallOk X cA W (BI.op .min) (rMinA X.K) := by
  intro F fp s σ H es ds d vs Q r q hd ho k
  have ho : minD ds = some d := ho
  rcases ds with _ | ⟨d1, _ | ⟨d2, _ | ⟨d3, ds⟩⟩⟩
  · cases ho
  · have ho : (d1.seq.bind dints).bind (fun ns => (lmin ns).map .int) = some d := ho
    obtain ⟨ns, hns, ho⟩ := Option.bind_eq_some_iff.mp ho
    obtain ⟨m, hm, rfl⟩ := Option.map_eq_some_iff.mp ho
    obtain ⟨xs, hx, hn⟩ := Option.bind_eq_some_iff.mp hns
    obtain ⟨v, ev, rfl, rfl, q1, h1⟩ := q.one hd
    obtain ⟨a, vs, rfl, m1, n1⟩ := Ep.seq r q1 h1 hx
    cases dints_ok hn n1
    obtain ⟨s1, s2⟩ := lmin_spec hm
    refine .inr ⟨a, ns, rfl, m1, ?_, fun m' h1 h2 => ?_⟩
    · exact List.length_pos_of_mem s1
    · have : m' = m := Int.le_antisymm ((h2 m s1)) ((s2 m' h1))
      subst this
      exact Ke.fin k r rfl rfl
  · cases d1 <;> cases d2 <;> simp only [minD, reduceCtorEq] at ho
    cases ho
    obtain ⟨v, v', ev, ev', rfl, rfl, q1, h1, q2, h2⟩ := q.two hd
    exact .inl ⟨_, _, by rw [int_of r q1 h1, int_of r q2 h2], Ke.fin k r rfl rfl⟩
  · cases ho
theorem sum_ok : CallOk X cA W (BI.op .sum) (rSum X.K) := by
  intro F fp s σ H es ds d vs Q r q hd ho k
  rcases ds with _ | ⟨d1, _ | ⟨d2, ds⟩⟩
  · cases ho
  · obtain ⟨v, ev, rfl, rfl, q1, h1⟩ := q.one hd
    simp only [BI.op] at ho
    obtain ⟨ns, hns, rfl⟩ := Option.map_eq_some_iff.mp ho
    obtain ⟨xs, hx, hn⟩ := Option.bind_eq_some_iff.mp hns
    obtain ⟨a, vs, rfl, m1, n1⟩ := Ep.seq r q1 h1 hx
    cases dints_ok hn n1
    exact ⟨a, ns, rfl, m1, Ke.fin k r rfl rfl⟩
  · simp only [BI.op, reduceCtorEq] at ho
theorem any_ok : CallOk X cA W (BI.op .any) (rAny X.K) := by
  intro F fp s σ H es ds d vs Q r q hd ho k
  rcases ds with _ | ⟨d1, _ | ⟨d2, ds⟩⟩
  · cases ho
  · obtain ⟨v, ev, rfl, rfl, q1, h1⟩ := q.one hd
    simp only [BI.op] at ho
    obtain ⟨ns, hns, rfl⟩ := Option.map_eq_some_iff.mp ho
    obtain ⟨xs, hx, hn⟩ := Option.bind_eq_some_iff.mp hns
    obtain ⟨a, vs, rfl, m1, n1⟩ := Ep.seq r q1 h1 hx
    cases dbools_ok hn n1
    exact ⟨a, ns, rfl, m1, Ke.fin k r rfl rfl⟩
  · simp only [BI.op, reduceCtorEq] at ho
theorem all_ok : CallOk X cA W (BI.op .all) (rAll X.K) := by
  intro F fp s σ H es ds d vs Q r q hd ho k
  rcases ds with _ | ⟨d1, _ | ⟨d2, ds⟩⟩
  · cases ho
  · obtain ⟨v, ev, rfl, rfl, q1, h1⟩ := q.one hd
    simp only [BI.op] at ho
    obtain ⟨ns, hns, rfl⟩ := Option.map_eq_some_iff.mp ho
    obtain ⟨xs, hx, hn⟩ := Option.bind_eq_some_iff.mp hns
    obtain ⟨a, vs, rfl, m1, n1⟩ := Ep.seq r q1 h1 hx
    cases dbools_ok hn n1
    exact ⟨a, ns, rfl, m1, Ke.fin k r rfl rfl⟩
  · simp only [BI.op, reduceCtorEq] at ho
theorem BI.of_name {x : Str} {b : BI} (h : BI.of x = some b) : x = b.name := by
  have z := List.find?_some h
  exact (beq_iff_eq.mp z).symm
theorem BI.boot : ∀ b : BI, bootBuiltins b.name = some b.val
  | .len => by decide +kernel
  | .int => by decide +kernel
  | .str => by decide +kernel
  | .list => by decide +kernel
  | .tuple => by decide +kernel
  | .max => by decide +kernel
  | .min => by decide +kernel
  | .sum => by decide +kernel
  | .any => by decide +kernel
  | .all => by decide +kernel
theorem BI.nm : ∀ b : BI, b.name ≠ "__name__" ∧ (b.name == ("__debug__" : Str)) = false
  | .len => by decide +kernel
  | .int => by decide +kernel
  | .str => by decide +kernel
  | .list => by decide +kernel
  | .tuple => by decide +kernel
  | .max => by decide +kernel
  | .min => by decide +kernel
  | .sum => by decide +kernel
  | .any => by decide +kernel
  | .all => by decide +kernel
theorem se_bi {b : BI} {fs : List (Sl → R EV)} {p : Pos} (hc : X.calm = true) (hg : Gl X b.name) (hm : X.mg b.name = none) (ha : SA X cA W (e :: es) (argsE fs)) (hs : (e :: es).all noStar = true) : SE X cA W (.Call (.Name b.name p) (e :: es) [] pos) (bltE b.op fs) := by
  have nm := b.nm
  have bt := b.boot
  cases b
  · exact se_callB (call_len.or call_lenD) len_ok hg hm bt ha nm.1 nm.2 hs
  · exact se_callTy (call_int1.or call_int_str) int_ok hg hm bt ha nm.1 nm.2 hs
  · exact se_callTy (call_str_int.or SkE.call_str_str) str_ok hg hm bt ha nm.1 nm.2 hs
  · exact se_callTy (call_list_of.or (call_listS hc)) list_ok hg hm bt ha nm.1 nm.2 hs
  · exact se_callTy call_tuple_of tuple_ok hg hm bt ha nm.1 nm.2 hs
  · exact se_callB ((call_max2 hc).or (cr_max hc)) max_ok hg hm bt ha nm.1 nm.2 hs
  · exact se_callB ((call_min2 hc).or (cr_min hc)) min_ok hg hm bt ha nm.1 nm.2 hs
  · exact se_callB (cr_sum hc) sum_ok hg hm bt ha nm.1 nm.2 hs
  · exact se_callB (cr_any hc) any_ok hg hm bt ha nm.1 nm.2 hs
  · exact se_callB (cr_all hc) all_ok hg hm bt ha nm.1 nm.2 hs

/-! ### isinstance -/
inductive TN where
  | tuple | list | int | bool | str | dict
  deriving DecidableEq
def TN.s : TN → String
  | .tuple => "tuple" | .list => "list" | .int => "int" | .bool => "bool" | .str => "str" | .dict => "dict"
def TN.of (x : Str) : Option TN := [TN.tuple, .list, .int, .bool, .str, .dict].find? fun t => (t.s : Str) == x
inductive Tg where
  | non | bl | int | str | tup | lst | dct
def Tg.s : Tg → String
  | .non => "NoneType" | .bl => "bool" | .int => "int" | .str => "str" | .tup => "tuple" | .lst => "list" | .dct => "dict"
def D.tg : D → Option Tg
  | .non => some .non | .bl _ => some .bl | .int _ => some .int | .str _ => some .str | .tup _ => some .tup | .lst _ _ => some .lst | .ro _ => some .lst | .dct _ _ _ => none | .obj _ _ _ _ => none
def TN.is : TN → Tg → Bool
  | .tuple, .tup => true
  | .list, .lst => true
  | .int, .int => true
  | .int, .bl => true
  | .bool, .bl => true
  | .str, .str => true
  | .dict, .dct => true
  | _, _ => false
/-- is data of the type -/
def isTy (t : TN) (d : D) : Option Bool := d.tg.map t.is
theorem kit_tab (t : TN) (g : Tg) : kitB g.s t.s = some (t.is g) := by
  cases t <;> cases g <;> decide +kernel
theorem Ep.ty {F H : Hp} {fp : Nat → List Addr} {s : Sl} {σ : L2.St} {v : V} {ev : EV} {d : D} {n : Tg} (r : Rl X.K cA F W.P W.pn fp s σ H) (h : Ep X.K cA F σ v ev) (e : evR ev s = some d) (q : d.tg = some n) : TyX X.K H v (.type n.s) := by
  cases d <;> simp only [D.tg, Option.some.injEq, reduceCtorEq] at q <;> subst q
  · cases (Ep.flat r h e rfl : v = _); exact .base .non
  · cases (Ep.flat r h e rfl : v = _); exact .base (.bl _)
  · cases (Ep.flat r h e rfl : v = _); exact .base (.int _)
  · cases (Ep.flat r h e rfl : v = _); exact .base (.str _)
  · obtain ⟨a, vs, rfl, m, _⟩ := Ep.flat r h e rfl
    rcases SqT_mono m r.fz with (m | ⟨o, m⟩) | ⟨o, its, n, m, hc, _⟩
    · exact .base (.tup m)
    · exact .fTuple m
    · exact .kTuple m hc
  · obtain ⟨a, vs, rfl, m, _⟩ := Ep.list r h e
    exact .base (.lst m)
  · obtain ⟨a, vs, rfl, m, _⟩ := Ep.flat r h e rfl
    rcases r.fz.seq m with (m | ⟨o, m⟩) | ⟨o, its, n, m, hc, _⟩
    · exact .base (.lst m)
    · exact .base (.frz m)
    · exact .kList m hc
def isiE (t : TN) (f : Sl → R EV) : Sl → R EV := penE f (op1K fun d => (isTy t d).map .bl)
theorem TN.boot : ∀ t : TN, bootBuiltins t.s = some (.type t.s) ∧ (t.s : Str) ≠ "__name__" ∧ ((t.s : Str) == ("__debug__" : Str)) = false
  | .tuple => by decide +kernel
  | .list => by decide +kernel
  | .int => by decide +kernel
  | .bool => by decide +kernel
  | .str => by decide +kernel
  | .dict => by decide +kernel
theorem se_isi {t : TN} {p p2 : Pos} (hg : Gl X "isinstance") (hm : X.mg "isinstance" = none) (hg2 : Gl X t.s) (hm2 : X.mg t.s = none) (ha : SE X cA W a f) (hs : noStar a = true) : SE X cA W (.Call (.Name "isinstance" p) [a, .Name t.s p2] [] pos) (isiE t f) := by
  obtain ⟨b1, b2, b3⟩ := t.boot
  have hp : PE X (.Name t.s p2) (tC (.ty t.s)) := pe_bltn hg2 hm2 b1 rfl b2 b3
  have he2 : starEach [a, .Name t.s p2] X.env = (false, eval a X.env) :: starEach [.Name t.s p2] X.env := starEach_cons hs
  refine PE_mono (pe_callB call_isi hg hm boot_isinstance (pa_cons ha (pa_cons hp pa_nil rfl) he2) (by decide +kernel) (by decide +kernel) he2 (back_plain rfl)) fun σ H Q h => ?_
  have z := one_run (C := fun F => KE X.K cA W F σ Q) KE_mono h
  obtain ⟨F, fp, s, rl, p⟩ := z
  refine ⟨F, fp, s, rl, Po.up (Same.refl _) p fun ev s' _ z x H1 F' fp' g' r' q' => ?_⟩
  obtain ⟨F1, fp1, s1, e1, r1, q1, p1⟩ := z x H1 F' fp' g' r' q'
  unfold op1K at p1
  split at p1
  · rename_i d1 h1
    split at p1
    · rename_i d hd
      obtain ⟨b, hb, rfl⟩ := Option.map_eq_some_iff.mp hd
      obtain ⟨n, hn, rfl⟩ := Option.map_eq_some_iff.mp hb
      exact ⟨x, .ty t.s, .type n.s, .type t.s, _, rfl, .ty _, Ep.ty r1 q1 h1 hn, kit_ty (kit_tab t n), Ke.fin p1 r1 rfl rfl⟩
    · exact p1.elim
  · exact p1.elim
end
end NS
namespace NS
open PySem PySem.Spec PyProof.Rows L2

/-! ## 8. statements -/
inductive Fl where
  | nx (s : Sl)
  | rt (d : D) (s : Sl)
  | bk (s : Sl)
  | ct (s : Sl)
  | ex (x : Xn) (s : Sl)
  | no
def R.to {α : Type} (r : R α) (k : α → Sl → Fl) : Fl := match r with
  | .ok a s => k a s
  | .ex x s => .ex x s
  | .no => .no
def Fl.seq (r : Fl) (k : Sl → Fl) : Fl := match r with
  | .nx s => k s
  | r => r
def nxS : Sl → Fl := fun s => .nx s
def seqS (f g : Sl → Fl) : Sl → Fl := fun s => (f s).seq g
def retS (f : Sl → R EV) : Sl → Fl := fun s => (f s).to fun e s1 => match e with
  | .val d => .rt d s1
  | .al i => match s1[i]? with
    | some (some d) => .rt d (s1.set i none)
    | _ => .no
def retN : Sl → Fl := fun s => .rt .non s
def exprS (f : Sl → R EV) : Sl → Fl := fun s => (f s).to fun _ s1 => .nx s1
def ifS (c : Sl → R Bool) (f g : Sl → Fl) : Sl → Fl := fun s => (c s).to fun b s1 => if b then f s1 else g s1
/-- name = value -/
def setS (i : Nat) (f : Sl → R EV) : Sl → Fl := fun s => (f s).to fun e s1 => match e with
  | .val d => if Nat.blt i s1.length then .nx (s1.set i (some d)) else .no
  | .al j => match s1[j]? with
    | some (some d) => if Nat.blt i s1.length then .nx ((s1.set j (some d.frz)).set i (some d.frz)) else .no
    | _ => .no
/-- targets, from shared data -/
def tgN (i : Nat) (d : D) (s : Sl) : Option Sl := if Nat.blt i s.length then some (s.set i (some d)) else none
def tgNs : List Nat → List D → Sl → Option Sl
  | [], [], s => some s
  | i :: is, d :: ds, s => (tgN i d s).bind (tgNs is ds)
  | _, _, _ => none
def tgT (is : List Nat) (d : D) (s : Sl) : Option Sl := match d with
  | .tup xs => tgNs is xs s
  | _ => none
/-- target = value, the value kept -/
def asgS (tg : D → Sl → Option Sl) (f : Sl → R EV) : Sl → Fl := fun s => penE f (fun e s1 => .ok e s1) s |>.to fun e s1 => match evV e s1 with
  | some (d, s2) => match tg d s2 with
    | some s3 => .nx s3
    | none => .no
  | none => .no

section
variable (K : PySem.W.Frag) (cA : Nat → Addr)
def PoS (W : Gx) (F : Hp) (D : Ends) (r : Fl) : Prop := match r with
  | .nx s => ∀ σ H F' fp', Same F F' → Rl K cA F' W.P W.pn fp' s σ H → D.nx σ H
  | .bk s => ∀ σ H F' fp', Same F F' → Rl K cA F' W.P W.pn fp' s σ H → D.bk σ H
  | .ct s => ∀ σ H F' fp', Same F F' → Rl K cA F' W.P W.pn fp' s σ H → D.ct σ H
  | .rt d s => ∀ v σ H F' fp', Same F F' → Rl K cA F' W.P W.pn fp' s σ H → Ev K cA F' W.P H fp' s σ v (.val d) → D.rt v H
  | .ex x s => ∀ cls dx σ H F' fp', Same F F' → Rl K cA F' W.P W.pn fp' s σ H → XnOk K cA F' H x cls dx → W.w cls dx σ H
  | .no => False
def tS (W : Gx) (f : Sl → Fl) : TS := fun D σ H => ∃ F fp s, Rl K cA F W.P W.pn fp s σ H ∧ PoS K cA W F D (f s)
end
section
variable {K : PySem.W.Frag} {cA : Nat → Addr} {W : Gx} {F F' H : Hp} {σ : L2.St}
theorem PoS.up {D : Ends} {r : Fl} (e : Same F F') (h : PoS K cA W F D r) : PoS K cA W F' D r := by
  cases r with
  | nx s => exact fun σ H F2 fp' g => h σ H F2 fp' (e.trans g)
  | bk s => exact fun σ H F2 fp' g => h σ H F2 fp' (e.trans g)
  | ct s => exact fun σ H F2 fp' g => h σ H F2 fp' (e.trans g)
  | rt d s => exact fun v σ H F2 fp' g => h v σ H F2 fp' (e.trans g)
  | ex x s => exact fun cls dx σ H F2 fp' g => h cls dx σ H F2 fp' (e.trans g)
  | no => exact h
/-- an expression ahead of a statement's end -/
theorem PoS.to {α : Type} {D : Ends} {r : R α} {k : α → Sl → Fl} {C : α → Sl → Prop} (h : PoS K cA W F D (r.to k)) (hc : ∀ a s, r = .ok a s → PoS K cA W F D (k a s) → C a s) : Po K cA W F σ r C := by
  cases r with
  | ok a s => exact hc a s rfl h
  | ex x s => exact fun cls dx H' F' fp' => h cls dx σ H' F' fp'
  | no => exact h
theorem PoS.seq {D : Ends} {r : Fl} {k : Sl → Fl} {D' : Ends} (h : PoS K cA W F D (r.seq k)) (hn : ∀ s, r = .nx s → PoS K cA W F D (k s) → ∀ σ H F' fp', Same F F' → Rl K cA F' W.P W.pn fp' s σ H → D'.nx σ H) (hr : D'.rt = D.rt) (hb : D'.bk = D.bk) (hcc : D'.ct = D.ct) : PoS K cA W F D' r := by
  cases r with
  | nx s => exact hn s rfl h
  | bk s => show ∀ σ H F' fp', _ → _ → D'.bk σ H; rw [hb]; exact h
  | ct s => show ∀ σ H F' fp', _ → _ → D'.ct σ H; rw [hcc]; exact h
  | rt d s => show ∀ v σ H F' fp', _ → _ → _ → D'.rt v H; rw [hr]; exact h
  | ex x s => exact h
  | no => exact h
end
section
variable {X : Cx} {cA : Nat → Addr} {W : Gx} {e a b c : Expr} {es : List Expr} {f g h : Sl → R EV} {pos : Pos} {st : Stmt} {sts : List Stmt} {F1 F2 : Sl → Fl}
abbrev SS (X : Cx) (cA : Nat → Addr) (W : Gx) (st : Stmt) (f : Sl → Fl) : Prop := PS X st (tS X.K cA W f)
abbrev SSs (X : Cx) (cA : Nat → Addr) (W : Gx) (st : List Stmt) (f : Sl → Fl) : Prop := PSs X st (tS X.K cA W f)
theorem sss_nil : SSs X cA W [] nxS := by
  refine PSs_mono pss_nil fun D σ H h => ?_
  obtain ⟨F, fp, s, r, p⟩ := h
  exact p σ H F fp (Same.refl F) r
theorem sss_cons (h1 : SS X cA W st F1) (h2 : SSs X cA W sts F2) : SSs X cA W (st :: sts) (seqS F1 F2) := by
  refine PSs_mono (pss_cons h1 h2) fun D σ H h => ?_
  obtain ⟨F, fp, s, r, p⟩ := h
  exact ⟨F, fp, s, r, PoS.seq p (fun s1 _ p1 σ1 H1 F1 fp1 g1 r1 => ⟨F1, fp1, s1, r1, p1.up g1⟩) rfl rfl rfl⟩
theorem sss_one (h1 : SS X cA W st F1) : SSs X cA W [st] F1 := pss_one h1
theorem ss_pass : SS X cA W (.Pass pos) nxS := by
  refine PS_mono ps_pass fun D σ H h => ?_
  obtain ⟨F, fp, s, r, p⟩ := h
  exact p σ H F fp (Same.refl F) r
theorem ss_expr (ha : SE X cA W e f) (hn : notComp e = true) : SS X cA W (.Expr e pos) (exprS f) := by
  refine PS_mono (ps_expr ha (swaps_no hn)) fun D σ H h => ?_
  obtain ⟨F, fp, s, r, p⟩ := h
  exact ⟨F, fp, s, r, PoS.to p fun ev s1 _ p1 v H1 F1 fp1 g1 r1 _ => p1 σ H1 F1 fp1 g1 r1⟩
theorem ss_if {tc : Sl → R Bool} {p q : List Stmt} (hc : ST X cA W c tc) (ha : SSs X cA W p F1) (hb : SSs X cA W q F2) : SS X cA W (.If c p q pos) (ifS tc F1 F2) := by
  refine PS_mono (ps_if hc ha hb) fun D σ H h => ?_
  obtain ⟨F, fp, s, r, p⟩ := h
  refine ⟨F, fp, s, r, PoS.to p fun b s1 _ p1 H1 F1 fp1 g1 r1 => ?_⟩
  cases b with
  | true => exact iteT ⟨F1, fp1, s1, r1, p1.up g1⟩
  | false => exact iteF ⟨F1, fp1, s1, r1, p1.up g1⟩
theorem ss_ret (ha : SE X cA W e f) : SS X cA W (.Return (some e) pos) (retS f) := by
  refine PS_mono (ps_ret ha) fun D σ H h => ?_
  obtain ⟨F, fp, s, r, p⟩ := h
  refine ⟨F, fp, s, r, PoS.to p fun ev s1 _ p1 v H1 F1 fp1 g1 r1 q1 => ?_⟩
  split at p1
  · exact p1 v σ H1 F1 fp1 g1 r1 q1
  · rename_i i hfs
    split at p1
    · rename_i d hd
      obtain ⟨_, hv⟩ := q1
      obtain ⟨u, hu, q⟩ := r1.sl i d hd
      rw [hv] at hu
      cases hu
      refine p1 v σ H1 F1 _ g1 (r1.drop i) ⟨fp1 i, q, r1.nd i, fun j a h1 h2 => ?_, fun a ha => r1.fr i a ha⟩
      by_cases hj : j = i
      · subst hj; rw [fset_same] at h2; cases h2
      · rw [fset_ne hj] at h2
        exact hj (r1.dj j i a h2 h1)
    · exact p1.elim
theorem ss_retN : SS X cA W (.Return none pos) retN := by
  refine PS_mono ps_retN fun D σ H h => ?_
  obtain ⟨F, fp, s, r, p⟩ := h
  exact p .non σ H F fp (Same.refl F) r (Ev.fro rfl rfl)

/-! ### targets -/
/-- what a target does with shared data -/
def TgOk (X : Cx) (cA : Nat → Addr) (W : Gx) (target : Expr) (tg : D → Sl → Option Sl) (is : List Nat) : Prop :=
  ∃ t : TG, PG X target t ∧ ∀ (F : Hp) (fp : Nat → List Addr) (s s' : Sl) (σ : L2.St) (H : Hp) (d : D) (v : V) (Q : L2.St → Hp → Prop), Rl X.K cA F W.P W.pn fp s σ H → RepF X.K cA F d v → d.own = false → tg d s = some s' →
    (∀ σ' fp', Rl X.K cA F W.P W.pn fp' s' σ' H → (∀ vs, (∀ i ∈ is, i ∈ vs) → wipe σ' vs = wipe σ vs) → Q σ' H) → t v σ H Q
theorem putF {F H : Hp} {fp : Nat → List Addr} {s : Sl} {σ : L2.St} {d : D} {v : V} {i : Nat} (r : Rl X.K cA F W.P W.pn fp s σ H) (hi : i < s.length) (q : RepF X.K cA F d v) (ho : d.own = false) (hp : W.pn i = none) : Rl X.K cA F W.P W.pn (fset fp i []) (s.set i (some d)) (σ.set i (some v)) H :=
  r.put hi (Vl.frozen ho q) List.nodup_nil (fun j a z => nomatch z) (fun a z => nomatch z) (fun u z => by rw [hp] at z; cases z)
theorem wipe_set {i : Nat} {x : Option V} : ∀ {vs : List Nat} {σ : L2.St}, i ∈ vs → wipe (σ.set i x) vs = wipe σ vs
  | [], _, h => by cases h
  | v :: vs, σ, h => by
    unfold wipe
    by_cases hv : i ∈ vs
    · rw [wipe_set hv]
    · have e : i = v := by
        rcases List.mem_cons.mp h with h | h
        · exact h
        · exact absurd h hv
      subst e
      have key : ∀ {vs : List Nat} {σ : L2.St}, i ∉ vs → wipe (σ.set i x) vs = (wipe σ vs).set i x := by
        intro vs
        induction vs with
        | nil => intro σ _; rfl
        | cons u us ih =>
          intro σ hu
          unfold wipe
          rw [ih (fun z => hu (List.mem_cons_of_mem _ z)), List.set_comm _ _ (fun z => hu (by rw [z]; simp))]
      rw [key hv, List.set_set]
theorem tg_name {i : Nat} {x : Str} (hN : X.N.Nodup) (hi : X.N[i]? = some x) (hx : Loc X.env.scope x) (hf : X.fn x = true ∨ X.env.scope.names.lookup x = some .local) (hp : W.pn i = none) : TgOk X cA W (.Name x pos) (tgN i) [i] := by
  refine ⟨gName i, pg_name hN hi hx hf, fun F fp s s' σ H d v Q r q ho e hQ => ?_⟩
  unfold tgN at e
  split at e
  · rename_i hb
    cases e
    exact hQ _ _ (putF r (Nat.blt_eq.mp hb) q ho hp) fun vs h => wipe_set (h i (by simp))
  · cases e
/-- names of a tuple target -/
inductive NmOk (X : Cx) (W : Gx) : List Expr → List Nat → Prop
  | nil : NmOk X W [] []
  | cons {x : Str} {p : Pos} {i : Nat} {es : List Expr} {is : List Nat} (hi : X.N[i]? = some x) (hx : Loc X.env.scope x) (hf : X.fn x = true ∨ X.env.scope.names.lookup x = some .local) (hp : W.pn i = none) (h : NmOk X W es is) : NmOk X W (.Name x p :: es) (i :: is)
theorem assignEach_name {x : Str} {p : Pos} {es : List Expr} {env : Env} : (assignEach (.Name x p :: es) env) = (false, assign (.Name x p) env) :: assignEach es env := rfl
theorem NmOk.star {es : List Expr} {is : List Nat} {env : Env} (h : NmOk X W es is) : (assignEach es env).findIdx? (·.1) = none ∧ (assignEach es env).length = es.length := by
  induction h with
  | nil => exact ⟨rfl, rfl⟩
  | cons hi hx hf hp h ih =>
    rw [assignEach_name]
    refine ⟨?_, by rw [List.length_cons, List.length_cons, ih.2]⟩
    rw [List.findIdx?_cons, ih.1]
    rfl
theorem NmOk.len {es : List Expr} {is : List Nat} (h : NmOk X W es is) : es.length = is.length := by
  induction h with
  | nil => rfl
  | cons _ _ _ _ _ ih => rw [List.length_cons, List.length_cons, ih]
theorem NmOk.pgs (hN : X.N.Nodup) {es : List Expr} {is : List Nat} (h : NmOk X W es is) : ∃ t : TGs, PGs X es t ∧ ∀ (F : Hp) (fp : Nat → List Addr) (s s' : Sl) (σ : L2.St) (H : Hp) (ds : List D) (vs : List V) (Q : L2.St → Hp → Prop), Rl X.K cA F W.P W.pn fp s σ H → RepFs X.K cA F ds vs →
    (∀ d ∈ ds, d.own = false) → tgNs is ds s = some s' → (∀ σ' fp', Rl X.K cA F W.P W.pn fp' s' σ' H → (∀ vs, (∀ i ∈ is, i ∈ vs) → wipe σ' vs = wipe σ vs) → Q σ' H) → t vs σ H Q := by
  induction h with
  | nil =>
    refine ⟨gNil, pgs_nil, fun F fp s s' σ H ds vs Q r q ho e hQ => ?_⟩
    cases ds with
    | nil =>
      cases e
      cases (show vs = [] from q)
      exact ⟨rfl, hQ σ fp r fun _ _ => rfl⟩
    | cons d ds => cases e
  | cons hi hx hf hp h ih =>
    obtain ⟨u, hu, hq⟩ := ih
    refine ⟨gCons (gName _) u, pgs_cons (pg_name hN hi hx hf) hu rfl, fun F fp s s' σ H ds vs Q r q ho e hQ => ?_⟩
    cases ds with
    | nil => cases e
    | cons d ds =>
      obtain ⟨v, vr, rfl, q1, q2⟩ := q
      obtain ⟨s1, e1, e2⟩ := Option.bind_eq_some_iff.mp e
      unfold tgN at e1
      split at e1
      · rename_i hb
        cases e1
        exact ⟨v, vr, rfl, hq F _ _ s' _ H ds vr Q (putF r (Nat.blt_eq.mp hb) q1 (ho d (by simp)) hp) q2 (fun d' hd => ho d' (List.mem_cons_of_mem _ hd)) e2 fun σ' fp' r' hw => hQ σ' fp' r' fun vs h => (hw vs fun i hi => h i (List.mem_cons_of_mem _ hi)).trans (wipe_set (h _ (by simp)))⟩
      · cases e1
def D.flatOwn : D → Bool
  | .tup xs => xs.all fun d => !d.own
  | _ => true
def tgT' (is : List Nat) (d : D) (s : Sl) : Option Sl := if d.flatOwn then tgT is d s else none
theorem tg_tup {es : List Expr} {is : List Nat} {k : Nat} (hc : X.calm = true) (hN : X.N.Nodup) (h : NmOk X W es is) : TgOk X cA W (.Tuple es k pos) (tgT' is) is := by
  obtain ⟨t, ht, hq⟩ := h.pgs (cA := cA) hN
  have z := h.star (env := X.env)
  refine ⟨gTup X.K es.length t, pg_tup hc ht z.2 z.1, fun F fp s s' σ H d v Q r q ho e hQ => ?_⟩
  unfold tgT' at e
  split at e
  · rename_i hf
    cases d <;> simp only [tgT, reduceCtorEq] at e
    rename_i xs
    obtain ⟨a, vs, rfl, m, n⟩ := q
    have hl : ∀ {is : List Nat} {ds : List D} {s s' : Sl}, tgNs is ds s = some s' → ds.length = is.length := by
      intro is
      induction is with
      | nil => intro ds s s' e; cases ds <;> first | rfl | cases e
      | cons i is ih =>
        intro ds s s' e
        cases ds with
        | nil => cases e
        | cons d ds =>
          obtain ⟨s1, _, e2⟩ := Option.bind_eq_some_iff.mp e
          rw [List.length_cons, List.length_cons, ih e2]
    have hl2 := h.len
    refine ⟨a, vs, rfl, SqT_mono m r.fz, ?_, hq F fp s s' σ H xs vs Q r n (fun d hd => ?_) e hQ⟩
    · rw [← n.length, hl e, hl2]
    · have := List.all_eq_true.mp hf d hd
      simpa using this
  · cases e

/-! ### assignment -/
theorem ss_set {i : Nat} {x : Str} {p : Pos} (hN : X.N.Nodup) (hi : X.N[i]? = some x) (hx : Loc X.env.scope x) (hf : X.fn x = true ∨ X.env.scope.names.lookup x = some .local) (hp : W.pn i = none) (ha : SE X cA W e f)
    (hn : swapsWith e (some (.Name x p)) pos.line X.env = pure false) : SS X cA W (.Assign [.Name x p] e pos) (setS i f) := by
  refine PS_mono (ps_set hN hi hx ha hn hf) fun D σ H h => ?_
  obtain ⟨F, fp, s, r, p⟩ := h
  refine ⟨F, fp, s, r, PoS.to p fun ev s1 _ p1 v H1 F1 fp1 g1 r1 q1 => ?_⟩
  split at p1
  · split at p1
    · rename_i d hb
      obtain ⟨l, q, nd, dj, fr⟩ := q1
      exact p1 _ H1 F1 _ g1 (r1.put (Nat.blt_eq.mp hb) q nd (fun j a h1 h2 => (dj j a h1 h2).elim) fr (fun u z => by rw [hp] at z; cases z))
    · exact p1.elim
  · rename_i j hfs
    split at p1
    · rename_i x d hd
      split at p1
      · rename_i hb
        obtain ⟨_, hv⟩ := q1
        obtain ⟨u, hu, q⟩ := r1.sl j d hd
        rw [hv] at hu
        cases hu
        have r2 := r1.freeze hd
        have e2 := r1.fsame j
        have q2 : RepF X.K cA (fzn F1 H1 (fp1 j)) d.frz v := Vl.freeze e2 d v _ q (fun a ha o z => by rw [fzn_in ha]; exact z)
        exact p1 _ H1 _ _ (g1.trans e2) (putF r2 (by rw [List.length_set]; exact Nat.blt_eq.mp hb) q2 (NS.D.frz_own d) hp)
      · exact p1.elim
    · exact p1.elim
theorem ss_asg {target : Expr} {tg : D → Sl → Option Sl} {is : List Nat} (ht : TgOk X cA W target tg is) (ha : SE X cA W e f) (hs : swapsWithSole [target] e pos.line X.env = pure false) (hw : swappedStores [target] e X.env = pure none)
    (h1 : (assignEach [target] X.env).map (·.2) = [assign target X.env]) : SS X cA W (.Assign [target] e pos) (asgS tg f) := by
  obtain ⟨t, hg, hq⟩ := ht
  refine PS_mono (ps_asg ha hg hs hw h1) fun D σ H h => ?_
  obtain ⟨F, fp, s, r, p⟩ := h
  have p : PoS X.K cA W F D ((f s).to fun e s1 => match evV e.pend s1 with
    | some (d, s2) => match tg d s2 with
      | some s3 => .nx s3
      | none => .no
    | none => .no) := by
    have e : asgS tg f s = (f s).to fun e s1 => match evV e.pend s1 with
      | some (d, s2) => match tg d s2 with
        | some s3 => .nx s3
        | none => .no
      | none => .no := by
      unfold asgS penE
      cases f s <;> rfl
    rw [← e]
    exact p
  refine ⟨F, fp, s, r, PoS.to p fun ev s1 _ p1 v H1 F1 fp1 g1 r1 q1 => ?_⟩
  obtain ⟨F2, g2, r2, q2⟩ := q1.pend r1
  split at p1
  · rename_i d s2 hd
    split at p1
    · rename_i s3 hs3
      obtain ⟨F3, fp3, g3, r3, q3, ho⟩ := Ep.evV r2 q2 hd
      exact hq F3 fp3 s2 s3 σ H1 d v _ r3 q3 ho hs3 fun σ' fp' r' _ => p1 σ' H1 F3 fp' (g1.trans (g2.trans g3)) r'
    · exact p1.elim
  · exact p1.elim
end
end NS
namespace NS
open PySem PySem.Spec PyProof.Rows L2

/-! ## 9. loops -/
/-- what is walked: its items -/
def seqItems (e : EV) (s : Sl) : R (List D) := match evV e s with
  | some (.lst _ xs, s1) => .ok xs s1
  | some (.ro xs, s1) => .ok xs s1
  | some (.tup xs, s1) => .ok xs s1
  | some (.str x, s1) => .ok (x.cps.toList.map fun c => .str ⟨#[c]⟩) s1
  | _ => .no
def seqI (f : Sl → R EV) : Sl → R (List D) := penE f seqItems
def intK {β : Type} (k : Int → Sl → R β) (e : EV) (s : Sl) : R β := match evR e s with
  | some (.int i) => k i s
  | _ => .no
def upto (lo : Int) (n : Nat) : List D := (List.range n).map fun j => .int (lo + (j : Nat))
def rng1 (f : Sl → R EV) : Sl → R (List D) := penE f (intK fun j s => if decide (j ≤ 1000000000) && decide (-1000000000 ≤ j) then .ok (upto 0 j.toNat) s else .no)
def rng2 (f g : Sl → R EV) : Sl → R (List D) := bin2 f g fun e1 e2 s => intK (fun i s => intK (fun j s => if decide (j ≤ 1000000000) && decide (-1000000000 ≤ j) && decide (i ≤ 1000000000) && decide (-1000000000 ≤ i) then .ok (upto i (j - i).toNat) s else .no) e2 s) e1 s
def enumL : Nat → List D → List D
  | _, [] => []
  | i, d :: ds => .tup [.int (i : Nat), d] :: enumL (i + 1) ds
def enumI (f : Sl → R EV) : Sl → R (List D) := penE f fun e s => match evV e s with
  | some (.lst _ xs, s1) => .ok (enumL 0 xs) s1
  | _ => .no
/-- a loop over items -/
def forL (step : D → Sl → Fl) : List D → Sl → Fl
  | [], s => .nx s
  | d :: ds, s => match step d s with
    | .nx s1 => forL step ds s1
    | .ct s1 => forL step ds s1
    | .bk s1 => .nx s1
    | r => r
def stepS (tg : D → Sl → Option Sl) (body : Sl → Fl) (d : D) (s : Sl) : Fl := match tg d s with
  | some s1 => body s1
  | none => .no
def forS (g : Sl → R (List D)) (tg : D → Sl → Option Sl) (body : Sl → Fl) : Sl → Fl := fun s => (g s).to fun ds s1 => forL (stepS tg body) ds s1
def whL (c : Sl → R Bool) (body : Sl → Fl) : Nat → Sl → Fl
  | 0, _ => .no
  | n + 1, s => (c s).to fun b s1 => if b then (match body s1 with
    | .nx s2 => whL c body n s2
    | .ct s2 => whL c body n s2
    | .bk s2 => .nx s2
    | r => r) else .nx s1

section
variable (K : PySem.W.Frag) (cA : Nat → Addr)
/-- at turn i the walk yields the item -/
def Yl (F H : Hp) (d : D) (x : V) (H' : Hp) : Prop := d.own = false ∧ ((H' = H ∧ RepF K cA F d x) ∨ ∃ p vs xs, H p = none ∧ H' = upd H p (.tup vs) ∧ x = .ref p ∧ d = .tup xs ∧ RepFs K cA F xs vs)
def ItD (F : Hp) (J : It) (ds : List D) : Prop := ∀ (i : Nat) (H : Hp), Same F H → (∀ d, ds[i]? = some d → J.go i H ∧ ∀ x H', J.yld i H x H' → Yl K cA F H d x H') ∧ (ds.length = i → J.stop i H)
abbrev KI (W : Gx) (F : Hp) (σ : L2.St) (R : It → Hp → Prop) : List D → Sl → Prop := fun ds s => ∀ J H' F' fp', Same F F' → Rl K cA F' W.P W.pn fp' s σ H' → ItD K cA F' J ds → R J H'
def tI (W : Gx) (g : Sl → R (List D)) : TI := fun σ H R => ∃ F fp s, Rl K cA F W.P W.pn fp s σ H ∧ Po K cA W F σ (g s) (KI K cA W F σ R)
end
section
variable {X : Cx} {cA : Nat → Addr} {W : Gx} {e a b c tg : Expr} {es : List Expr} {f g h : Sl → R EV} {pos : Pos}
abbrev SI (X : Cx) (cA : Nat → Addr) (W : Gx) (tg iter : Expr) (g : Sl → R (List D)) : Prop := PI X tg iter (tI X.K cA W g)
theorem PI_mono {t t' : TI} {it : Expr} (h : PI X tg it t) (w : ∀ σ H R, t' σ H R → t σ H R) : PI X tg it t' := ⟨fun pins s σ H R I q => h.run pins s σ H R I (w σ H R q)⟩
theorem KI_mono {σ : L2.St} {R : It → Hp → Prop} : ∀ F F' b s, Same F F' → KI X.K cA W F σ R b s → KI X.K cA W F' σ R b s := fun F F' b s g h J H' F2 fp' g2 => h J H' F2 fp' (g.trans g2)
/-- items that are no container of one place -/
def plainL (ds : List D) : Bool := ds.all fun d => !d.own
theorem plain_at {ds : List D} {i : Nat} {d : D} (h : plainL ds = true) (e : ds[i]? = some d) : d.own = false := by
  have := List.all_eq_true.mp h d (List.mem_of_getElem? e)
  simpa using this
theorem itd_list {F : Hp} {p : Addr} {vs : List V} {ds : List D} (hs : ∀ H, Same F H → SqL X.K H p vs) (hu : ∀ H ys, Same F H → SqL X.K H p ys → vs = ys ∨ True) (n : RepFs X.K cA F ds vs) (hp : plainL ds = true) : ItD X.K cA F (Itl X.K p) ds := by
  intro i H g
  refine ⟨fun d hd => ?_, fun hl => ⟨vs, hs H g, by rw [← n.length]; exact Nat.le_of_eq hl⟩⟩
  obtain ⟨v, hv, q⟩ := n.get hd
  refine ⟨⟨vs, v, hs H g, hv⟩, fun x H' y => ?_⟩
  obtain ⟨rfl, y⟩ := y
  have := y vs (hs _ g)
  rw [hv] at this
  cases this
  exact ⟨plain_at hp hd, .inl ⟨rfl, q⟩⟩
theorem itd_tup {F : Hp} {p : Addr} {vs : List V} {ds : List D} (hs : ∀ H, Same F H → SqT X.K H p vs) (n : RepFs X.K cA F ds vs) (hp : plainL ds = true) : ItD X.K cA F (Itt X.K p) ds := by
  intro i H g
  refine ⟨fun d hd => ?_, fun hl => ⟨vs, hs H g, by rw [← n.length]; exact Nat.le_of_eq hl⟩⟩
  obtain ⟨v, hv, q⟩ := n.get hd
  refine ⟨⟨vs, v, hs H g, hv⟩, fun x H' y => ?_⟩
  obtain ⟨rfl, y⟩ := y
  have := y vs (hs _ g)
  rw [hv] at this
  cases this
  exact ⟨plain_at hp hd, .inl ⟨rfl, q⟩⟩
theorem itd_str {F : Hp} {x : Str} : ItD X.K cA F (Its x) (x.cps.toList.map fun c => .str ⟨#[c]⟩) := by
  intro i H g
  refine ⟨fun d hd => ?_, fun hl => by rw [List.length_map] at hl; exact Nat.le_of_eq hl⟩
  rw [List.getElem?_map] at hd
  obtain ⟨c, hc, rfl⟩ := Option.map_eq_some_iff.mp hd
  have hc' : x.cps[i]? = some c := by simpa using hc
  refine ⟨(Array.getElem?_eq_some_iff.mp hc').1, fun v H' y => ?_⟩
  obtain ⟨rfl, c', h1, rfl⟩ := y
  rw [hc'] at h1
  cases h1
  exact ⟨rfl, .inl ⟨rfl, rfl⟩⟩
theorem itd_rng {F : Hp} {lo : Int} {n : Nat} : ItD X.K cA F (Itr lo n) (upto lo n) := by
  intro i H g
  unfold upto
  refine ⟨fun d hd => ?_, fun hl => by rw [List.length_map, List.length_range] at hl; exact Nat.le_of_eq hl⟩
  rw [List.getElem?_map] at hd
  obtain ⟨j, hj, rfl⟩ := Option.map_eq_some_iff.mp hd
  obtain ⟨h1, h2⟩ := List.getElem?_eq_some_iff.mp hj
  rw [List.getElem_range] at h2
  subst h2
  rw [List.length_range] at h1
  refine ⟨h1, fun v H' y => ?_⟩
  obtain ⟨rfl, rfl⟩ := y
  exact ⟨rfl, .inl ⟨rfl, rfl⟩⟩

/-- plain items, or it is no loop of ours -/
def plI (g : Sl → R (List D)) : Sl → R (List D) := fun s => (g s).bind fun ds s1 => if plainL ds then .ok ds s1 else .no
/-- whatever is a list, a tuple, a text -/
def iAll (K : PySem.W.Frag) (tl : TE) : TI := fun σ H R => tl σ H fun x H1 => (∃ a, x = .ref a ∧ (∃ xs, SqL K H1 a xs) ∧ R (Itl K a) H1) ∨ (∃ a, x = .ref a ∧ (∃ xs, SqT K H1 a xs) ∧ R (Itt K a) H1) ∨ ∃ z, x = .str z ∧ R (Its z) H1
theorem pi_all {l : Expr} {tl : TE} (hl : PE X l tl) : PI X tg l (iAll X.K tl) := by
  refine ⟨fun pins s σ H R I h => ?_⟩
  have one : ∀ (x : V) (H1 : Hp) (s1 : Shared) (v : Value), Inv X pins σ H1 s1 → RelV x v → ((∃ a, x = .ref a ∧ (∃ xs, SqL X.K H1 a xs) ∧ R (Itl X.K a) H1) ∨ (∃ a, x = .ref a ∧ (∃ xs, SqT X.K H1 a xs) ∧ R (Itt X.K a) H1) ∨ ∃ z, x = .str z ∧ R (Its z) H1) →
      wpAny (model X.prog X.w) X.A (pyIter v) (PIE X pins σ tg R) X.xe s1 := by
    rintro x H1 s1 v I1 r1 (⟨a, rfl, ⟨xs, hq⟩, q⟩ | ⟨a, rfl, ⟨xs, hq⟩, q⟩ | ⟨z, rfl, q⟩)
    · cases r1
      obtain ⟨its, rv, p, hz⟩ := I1.list hq
      refine wpAny_pyIter_list p.isList ?_
      exact pi_one (tk := s1.toks) I1 _ (turn_list a _) ⟨_, Heap.get?_push_size _ rfl, rfl, rfl⟩ q
    · cases r1
      obtain ⟨its, rv, p, hz⟩ := I1.tuple hq
      refine wpAny_pyIter_tuple (show s1.heap.IsTuple a its.toArray from p) ?_
      exact pi_one (tk := s1.toks) I1 _ (turn_tuple a _) ⟨_, Heap.get?_push_size _ rfl, rfl, rfl⟩ q
    · obtain ⟨t, rfl⟩ := r1
      cases ha : z.cps.all (· < 128)
      · exact wpAny_pyIter_wide ha (pi_one (tk := s1.toks) I1 _ (turn_str _ z t "str_iterator" (.inr rfl)) ⟨_, Heap.get?_push_size _ rfl, rfl, rfl⟩ q)
      · exact wpAny_pyIter_ascii ha (pi_one (tk := s1.toks) I1 _ (turn_str _ z t "str_ascii_iterator" (.inl rfl)) ⟨_, Heap.get?_push_size _ rfl, rfl, rfl⟩ q)
  exact thn (hl.run pins s σ H _ I h) fun v s1 ⟨x, H1, I1, r1, q1⟩ => one x H1 s1 v I1 r1 q1
theorem si_seq (ha : SE X cA W e f) : SI X cA W tg e (plI (seqI f)) := by
  refine PI_mono (pi_all ha) fun σ H R h => ?_
  obtain ⟨F, fp, s, r, p⟩ := h
  have z := one_run (C := fun F => KI X.K cA W F σ R) (k := fun e s => (seqItems e s).bind fun ds s1 => if plainL ds then .ok ds s1 else .no) (f := f) KI_mono ⟨F, fp, s, r, by
    have e : plI (seqI f) s = penE f (fun e s => (seqItems e s).bind fun ds s1 => if plainL ds then .ok ds s1 else .no) s := by
      unfold plI seqI penE
      cases f s <;> rfl
    rw [← e]
    exact p⟩
  obtain ⟨F, fp, s, rl, p⟩ := z
  refine ⟨F, fp, s, rl, Po.up (Same.refl _) p fun ev s' _ z x H1 F' fp' g' r' q' => ?_⟩
  obtain ⟨F1, fp1, s1, e1, r1, q1, p1⟩ := z x H1 F' fp' g' r' q'
  dsimp only at p1
  unfold seqItems at p1
  split at p1 <;> simp only [NS.R.bind] at p1
  all_goals first | exact p1.elim | skip
  all_goals
    split at p1 <;> first | exact p1.elim | skip
  · rename_i o xs s2 hd hp
    obtain ⟨F2, fp2, g2, r2, q2, _⟩ := Ep.evV r1 q1 hd
    obtain ⟨a, vs, rfl, m, n⟩ := q2
    exact .inl ⟨a, rfl, ⟨vs, .of (r2.fz _ _ m)⟩, p1 _ H1 F2 fp2 g2 r2 (itd_list (fun H g => .of (g _ _ m)) (fun _ _ _ _ => .inr trivial) n hp)⟩
  · rename_i xs s2 hd hp
    obtain ⟨F2, fp2, g2, r2, q2, _⟩ := Ep.evV r1 q1 hd
    obtain ⟨a, vs, rfl, m, n⟩ := q2
    exact .inl ⟨a, rfl, ⟨vs, r2.fz.seq m⟩, p1 _ H1 F2 fp2 g2 r2 (itd_list (fun H g => g.seq m) (fun _ _ _ _ => .inr trivial) n hp)⟩
  · rename_i xs s2 hd hp
    obtain ⟨F2, fp2, g2, r2, q2, _⟩ := Ep.evV r1 q1 hd
    obtain ⟨a, vs, rfl, m, n⟩ := q2
    exact .inr (.inl ⟨a, rfl, ⟨vs, SqT_mono m r2.fz⟩, p1 _ H1 F2 fp2 g2 r2 (itd_tup (fun H g => SqT_mono m g) n hp)⟩)
  · rename_i x s2 hd hp
    obtain ⟨F2, fp2, g2, r2, q2, _⟩ := Ep.evV r1 q1 hd
    cases (show _ = V.str x from q2)
    exact .inr (.inr ⟨x, rfl, p1 _ H1 F2 fp2 g2 r2 itd_str⟩)
theorem si_rng1 {p : Pos} (hg : Gl X "range") (hm : X.mg "range" = none) (ha : SE X cA W a f) (hs : noStar a = true) : SI X cA W tg (.Call (.Name "range" p) [a] [] pos) (rng1 f) := by
  refine PI_mono (pi_range1 hg hm (pa_cons ha pa_nil (starEach_cons hs)) (starEach_cons hs)) fun σ H R h => ?_
  have z := one_run (C := fun F => KI X.K cA W F σ R) KI_mono h
  obtain ⟨F, fp, s, rl, p⟩ := z
  refine ⟨F, fp, s, rl, Po.up (Same.refl _) p fun ev s' _ z x H1 F' fp' g' r' q' => ?_⟩
  obtain ⟨F1, fp1, s1, e1, r1, q1, p1⟩ := z x H1 F' fp' g' r' q'
  unfold intK at p1
  split at p1
  · rename_i j hj
    dsimp only at p1
    split at p1
    · rename_i hb
      rw [Bool.and_eq_true] at hb
      have b1 := of_decide_eq_true hb.1
      have b2 := of_decide_eq_true hb.2
      exact ⟨j, by rw [int_of r1 q1 hj], by omega, by omega, p1 _ H1 F1 fp1 (Same.refl _) r1 itd_rng⟩
    · exact p1.elim
  · exact p1.elim
theorem si_rng2 {p : Pos} (hg : Gl X "range") (hm : X.mg "range" = none) (ha : SE X cA W a f) (hb : SE X cA W b g) (hs : noStar a = true) (hs2 : noStar b = true) : SI X cA W tg (.Call (.Name "range" p) [a, b] [] pos) (rng2 f g) := by
  refine PI_mono (pi_range2 hg hm (pa_cons ha (pa_cons hb pa_nil (starEach_cons hs2)) (starEach_cons hs)) (by rw [starEach_cons hs, starEach_cons hs2]; rfl) (starEach_cons hs2)) fun σ H R h => ?_
  have z := bin_run (C := fun F => KI X.K cA W F σ R) KI_mono h
  obtain ⟨F, fp, s, rl, p⟩ := z
  refine ⟨F, fp, s, rl, Po.up (Same.refl _) p fun ev s' _ z x H1 F' fp' g' r' q' => ?_⟩
  obtain ⟨F2, fp2, s2, r2, p2⟩ := z x H1 F' fp' g' r' q'
  refine ⟨F2, fp2, s2, r2, Po.up (Same.refl _) p2 fun ev s' _ z y H2 F' fp' g' r' q' => ?_⟩
  obtain ⟨F3, fp3, s3, e1, e2, r3, q1, q2, p3⟩ := z y H2 F' fp' g' r' q'
  unfold intK at p3
  dsimp only at p3
  split at p3
  · rename_i i hi
    split at p3
    · rename_i j hj
      split at p3
      · rename_i hb
        rw [Bool.and_eq_true, Bool.and_eq_true, Bool.and_eq_true] at hb
        have b1 := of_decide_eq_true hb.1.1.1
        have b2 := of_decide_eq_true hb.1.1.2
        have b3 := of_decide_eq_true hb.1.2
        have b4 := of_decide_eq_true hb.2
        exact ⟨i, j, by rw [int_of r3 q1 hi, int_of r3 q2 hj], ⟨by omega, by omega, by omega, by omega⟩, p3 _ H2 F3 fp3 (Same.refl _) r3 itd_rng⟩
      · exact p3.elim
    · exact p3.elim
  · exact p3.elim
theorem enumL_get : ∀ {ds : List D} {i k : Nat} {d : D}, (enumL k ds)[i]? = some d → ∃ x, ds[i]? = some x ∧ d = .tup [.int ((k + i : Nat) : Int), x]
  | [], i, k, d, h => by simp [enumL] at h
  | y :: ds, 0, k, d, h => by
    simp only [enumL, List.getElem?_cons_zero, Option.some.injEq] at h
    exact ⟨y, rfl, h.symm⟩
  | y :: ds, i + 1, k, d, h => by
    simp only [enumL, List.getElem?_cons_succ] at h
    obtain ⟨x, h1, h2⟩ := enumL_get (i := i) h
    refine ⟨x, by simpa using h1, ?_⟩
    rw [h2, show k + 1 + i = k + (i + 1) by omega]
theorem enumL_length : ∀ {ds : List D} {k : Nat}, (enumL k ds).length = ds.length
  | [], _ => rfl
  | y :: ds, k => by
    show (enumL (k + 1) ds).length + 1 = ds.length + 1
    rw [enumL_length]
theorem si_enum {p tp : Pos} {kk : Nat} (hg : Gl X "enumerate") (hm : X.mg "enumerate" = none) (ha : SE X cA W a f) (hs : noStar a = true) : SI X cA W (.Tuple es kk tp) (.Call (.Name "enumerate" p) [a] [] pos) (enumI f) := by
  refine PI_mono (pi_enum hg hm (pa_cons ha pa_nil (starEach_cons hs)) (starEach_cons hs)) fun σ H R h => ?_
  have z := one_run (C := fun F => KI X.K cA W F σ R) KI_mono h
  obtain ⟨F, fp, s, rl, p⟩ := z
  refine ⟨F, fp, s, rl, Po.up (Same.refl _) p fun ev s' _ z x H1 F' fp' g' r' q' => ?_⟩
  obtain ⟨F1, fp1, s1, e1, r1, q1, p1⟩ := z x H1 F' fp' g' r' q'
  dsimp only at p1
  split at p1
  · rename_i o xs s2 hd
    obtain ⟨F2, fp2, g2, r2, q2, _⟩ := Ep.evV r1 q1 hd
    obtain ⟨a, vs, rfl, m, n⟩ := q2
    refine ⟨a, vs, rfl, .of (r2.fz _ _ m), p1 _ H1 F2 fp2 g2 r2 ?_⟩
    intro i H g
    refine ⟨fun d hdd => ?_, fun hl => ⟨vs, .of (g _ _ m), by rw [enumL_length] at hl; rw [← n.length]; exact Nat.le_of_eq hl⟩⟩
    obtain ⟨x, hx, rfl⟩ := enumL_get hdd
    obtain ⟨v, hv, q⟩ := n.get hx
    refine ⟨⟨vs, v, .of (g _ _ m), hv⟩, fun y H' hy => ?_⟩
    obtain ⟨T, x', rfl, hT, rfl, hx'⟩ := hy
    have e' := hx' vs (.of (g _ _ m))
    rw [hv] at e'
    cases e'
    refine ⟨rfl, .inr ⟨T, _, _, hT, rfl, rfl, rfl, .int (i : Nat), [v], rfl, ?_, v, [], rfl, q, rfl⟩⟩
    show V.int _ = V.int _
    rw [Nat.zero_add]
  · exact p1.elim

/-! ### for -/
theorem yl_rep {F : Hp} {fp : Nat → List Addr} {s : Sl} {σ : L2.St} {H H' : Hp} {d : D} {x : V} (r : Rl X.K cA F W.P W.pn fp s σ H) (y : Yl X.K cA F H d x H') : ∃ F', Same F F' ∧ Rl X.K cA F' W.P W.pn fp s σ H' ∧ RepF X.K cA F' d x := by
  obtain ⟨_, ⟨rfl, q⟩ | ⟨p, vs, xs, hp, rfl, rfl, rfl, n⟩⟩ := y
  · exact ⟨F, Same.refl F, r, q⟩
  · have e1 := same_upd (Same.free r.fz hp) (.tup vs)
    exact ⟨_, e1, r.newF hp (.tup vs), p, vs, rfl, .of upd_same, n.mono e1⟩
theorem ItD.mono {F F' : Hp} {J : It} {ds : List D} (h : ItD X.K cA F J ds) (g : Same F F') : ItD X.K cA F' J ds := by
  intro i H g2
  obtain ⟨h1, h2⟩ := h i H (g.trans g2)
  refine ⟨fun d hd => ?_, h2⟩
  obtain ⟨h3, h4⟩ := h1 d hd
  refine ⟨h3, fun x H' y => ?_⟩
  obtain ⟨ho, z⟩ := h4 x H' y
  refine ⟨ho, ?_⟩
  rcases z with ⟨rfl, q⟩ | ⟨p, vs, xs, hp, rfl, rfl, rfl, n⟩
  · exact .inl ⟨rfl, RepF.mono g _ _ q⟩
  · exact .inr ⟨p, vs, xs, hp, rfl, rfl, rfl, n.mono g⟩
theorem for_ok {is : List Nat} {F : Hp} {J : It} {ds : List D} {fp : Nat → List Addr} {s : Sl} {σ : L2.St} {H : Hp} {D' : Ends} {tt : D → Sl → Option Sl} {body : Sl → Fl} {t : TG} (hJ : ItD X.K cA F J ds)
    (ht : ∀ (F : Hp) (fp : Nat → List Addr) (s s' : Sl) (σ : L2.St) (H : Hp) (d : D) (v : V) (Q : L2.St → Hp → Prop), Rl X.K cA F W.P W.pn fp s σ H → RepF X.K cA F d v → d.own = false → tt d s = some s' → (∀ σ' fp', Rl X.K cA F W.P W.pn fp' s' σ' H → (∀ vs, (∀ i ∈ is, i ∈ vs) → wipe σ' vs = wipe σ vs) → Q σ' H) → t v σ H Q)
    (r : Rl X.K cA F W.P W.pn fp s σ H) (p : PoS X.K cA W F D' (forL (stepS tt body) ds s)) :
    ∃ Z : Nat → Nat → L2.St → Hp → Prop, (∃ m, Z 0 m σ H) ∧ ∀ i m σ H, Z i m σ H →
      (J.stop i H ∧ D'.nx σ H) ∨ (J.go i H ∧ ∃ N : L2.St → Hp → Prop, (∀ σ' H', N σ' H' → ∃ m', m' < m ∧ Z (i + 1) m' σ' H') ∧ ∀ x H', J.yld i H x H' → t x σ H' fun σ2 H2 => tS X.K cA W body { D' with nx := N, ct := N, bk := D'.nx } σ2 H2) := by
  refine ⟨fun i m σ H => m = ds.length - i ∧ i ≤ ds.length ∧ ∃ F1 fp1 s1, Same F F1 ∧ Rl X.K cA F1 W.P W.pn fp1 s1 σ H ∧ PoS X.K cA W F1 D' (forL (stepS tt body) (ds.drop i) s1), ⟨ds.length, rfl, Nat.zero_le _, F, fp, s, Same.refl F, r, p⟩, ?_⟩
  rintro i m σ1 H1 ⟨rfl, hi, F1, fp1, s1, g1, r1, p1⟩
  obtain ⟨hgo, hstop⟩ := hJ i H1 (g1.trans r1.fz)
  by_cases hlt : i < ds.length
  · have hd : ds[i]? = some ds[i] := List.getElem?_eq_getElem hlt
    obtain ⟨go, hy⟩ := hgo _ hd
    refine .inr ⟨go, fun σ' H' => ∃ F2 fp2 s2, Same F F2 ∧ Rl X.K cA F2 W.P W.pn fp2 s2 σ' H' ∧ PoS X.K cA W F2 D' (forL (stepS tt body) (ds.drop (i + 1)) s2), fun σ' H' h => ⟨ds.length - (i + 1), by omega, rfl, hlt, h⟩, fun x H' y => ?_⟩
    rw [List.drop_eq_getElem_cons hlt] at p1
    obtain ⟨ho, z⟩ := hy x H' y
    have y1 : Yl X.K cA F1 H1 ds[i] x H' := by
      refine ⟨ho, ?_⟩
      rcases z with ⟨rfl, q⟩ | ⟨p, vs, xs, hp, rfl, rfl, e, n⟩
      · exact .inl ⟨rfl, RepF.mono g1 _ _ q⟩
      · exact .inr ⟨p, vs, xs, hp, rfl, rfl, e, n.mono g1⟩
    obtain ⟨F2, g2, r2, q2⟩ := yl_rep r1 y1
    have p2 : PoS X.K cA W F1 D' (match stepS tt body ds[i] s1 with
      | .nx s1 => forL (stepS tt body) (ds.drop (i + 1)) s1
      | .ct s1 => forL (stepS tt body) (ds.drop (i + 1)) s1
      | .bk s1 => .nx s1
      | r => r) := p1
    unfold stepS at p2
    cases hs : tt ds[i] s1 with
    | none => rw [hs] at p2; exact p2.elim
    | some s2 =>
      rw [hs] at p2
      refine ht F2 fp1 s1 s2 σ1 H' ds[i] x _ r2 q2 ho hs fun σ' fp' r' _ => ⟨F2, fp', s2, r', ?_⟩
      have p3 := PoS.up g2 p2
      dsimp only at p3
      cases hb : body s2 with
      | nx s3 => rw [hb] at p3; exact fun σ3 H3 F3 fp3 g3 r3 => ⟨F3, fp3, s3, g1.trans (g2.trans g3), r3, p3.up g3⟩
      | ct s3 => rw [hb] at p3; exact fun σ3 H3 F3 fp3 g3 r3 => ⟨F3, fp3, s3, g1.trans (g2.trans g3), r3, p3.up g3⟩
      | bk s3 => rw [hb] at p3; exact p3
      | rt d s3 => rw [hb] at p3; exact p3
      | ex x s3 => rw [hb] at p3; exact p3
      | no => rw [hb] at p3; exact p3
  · have e : i = ds.length := by omega
    subst e
    rw [List.drop_length] at p1
    exact .inl ⟨hstop rfl, p1 σ1 H1 F1 fp1 (Same.refl _) r1⟩
theorem ss_for {is : List Nat} {iter : Expr} {body : List Stmt} {gi : Sl → R (List D)} {tt : D → Sl → Option Sl} {fb : Sl → Fl} (hp : PassesOwn (model X.prog X.w) X.A X.env X.xe) (hc : X.calm = true) (hi : SI X cA W tg iter gi) (hg : TgOk X cA W tg tt is) (hb : SSs X cA W body fb) (hs : notSet iter = true) :
    SS X cA W (.For tg iter body [] pos) (forS gi tt fb) := by
  obtain ⟨t, ht, hq⟩ := hg
  refine PS_mono (ps_for hp hc hi ht hb (folded_eq hs)) fun D σ H h => ?_
  obtain ⟨F, fp, s, r, p⟩ := h
  exact ⟨F, fp, s, r, PoS.to p fun ds s1 _ p1 J H1 F1 fp1 g1 r1 hJ => for_ok hJ hq r1 (p1.up g1)⟩
theorem ss_while {body : List Stmt} {tc : Sl → R Bool} {fb : Sl → Fl} {n : Nat} (hp : PassesOwn (model X.prog X.w) X.A X.env X.xe) (hc : ST X cA W c tc) (hb : SSs X cA W body fb) : SS X cA W (.While c body [] pos) (whL tc fb n) := by
  refine PS_mono (ps_while hp hc hb) fun D σ H h => ?_
  obtain ⟨F, fp, s, r, p⟩ := h
  refine ⟨fun m σ H => ∃ F fp s, Rl X.K cA F W.P W.pn fp s σ H ∧ PoS X.K cA W F D (whL tc fb m s), ⟨n, F, fp, s, r, p⟩, ?_⟩
  rintro m σ1 H1 ⟨F1, fp1, s1, r1, p1⟩
  cases m with
  | zero => exact p1.elim
  | succ m =>
    refine ⟨F1, fp1, s1, r1, PoS.to p1 fun b s2 _ p2 H2 F2 fp2 g2 r2 => ?_⟩
    cases b with
    | false => exact iteF (p2 σ1 H2 F2 fp2 g2 r2)
    | true =>
      refine iteT ⟨fun σ' H' => ∃ F fp s, Rl X.K cA F W.P W.pn fp s σ' H' ∧ PoS X.K cA W F D (whL tc fb m s), fun σ' H' h => ⟨m, Nat.lt_succ_self m, h⟩, F2, fp2, s2, r2, ?_⟩
      have p3 := PoS.up g2 p2
      simp only [if_true] at p3
      cases hb : fb s2 with
      | nx s3 => rw [hb] at p3; exact fun σ3 H3 F3 fp3 g3 r3 => ⟨F3, fp3, s3, r3, p3.up g3⟩
      | ct s3 => rw [hb] at p3; exact fun σ3 H3 F3 fp3 g3 r3 => ⟨F3, fp3, s3, r3, p3.up g3⟩
      | bk s3 => rw [hb] at p3; exact p3
      | rt d s3 => rw [hb] at p3; exact p3
      | ex x s3 => rw [hb] at p3; exact p3
      | no => rw [hb] at p3; exact p3
end
/-! ### zip of two, lists or tuples -/
def D.zit : D → Option (List D)
  | .lst _ xs => some xs
  | .tup xs => some xs
  | _ => none
def SqM (K : PySem.W.Frag) (t : Bool) (H : Hp) (a : Addr) (xs : List V) : Prop := match t with
  | true => SqT K H a xs
  | false => SqL K H a xs
def ItAt (t : Bool) (h : Heap) (it a : Addr) (i : Nat) : Prop := match t with
  | true => h.IsTupleIter it a i
  | false => h.IsListIter it a i
def SeqAt (t : Bool) (h : Heap) (a : Addr) (its : Array Value) : Prop := match t with
  | true => h.IsTuple a its
  | false => h.IsList a its
def itObj (t : Bool) (a : Addr) : Obj := match t with
  | true => { cls := .type "tuple_iterator", data := .fields #[.ref a, .int 0 0] }
  | false => { cls := .type "list_iterator", data := .fields #[.ref a, .int 0 0] }
theorem sqm_at {X : Cx} {pins : List (Addr × Obj)} {σ : L2.St} {H : Hp} {s : Shared} (I : Inv X pins σ H s) {t : Bool} {a : Addr} {xs : List V} (h : SqM X.K t H a xs) : ∃ its : List Value, Vals xs its ∧ SeqAt t s.heap a its.toArray := by
  cases t with
  | true => obtain ⟨its, r, p, _⟩ := I.tuple h; exact ⟨its, r, p⟩
  | false => obtain ⟨its, r, p, _⟩ := I.list h; exact ⟨its, r, p.isList⟩
theorem sqm_inj {X : Cx} {pins : List (Addr × Obj)} {σ : L2.St} {H : Hp} {s : Shared} (I : Inv X pins σ H s) {t : Bool} {a : Addr} {xs ys : List V} (h : SqM X.K t H a xs) (h' : SqM X.K t H a ys) : xs = ys := by
  cases t with
  | true => exact I.tuple_inj h h'
  | false => exact I.list_inj h h'
theorem drw {P : Program} {w : World} {A : Around} (hh : A.handled = none) (t : Bool) (it a : Addr) (hne : a ≠ it) (its : Array Value) : Draws P w A it [it, a] its.size (fun i v => its[i]? = some v) (fun i h => ItAt t h it a i ∧ SeqAt t h a its) := by
  cases t with
  | true => exact Draws.tuple hh it a hne its
  | false => exact Draws.list hh it a hne its
theorem bgn (t : Bool) (a : Addr) (its : Array Value) : Begins (.ref a) (itObj t a) fun h => SeqAt t h a its := by
  cases t with
  | true => exact begins_tuple a its
  | false => exact begins_list a its
theorem seqAt_lt {t : Bool} {h : Heap} {a : Addr} {its : Array Value} (p : SeqAt t h a its) : a < h.objs.size := by
  cases t with
  | true => obtain ⟨o, e, _⟩ := id p; exact Heap.lt_size e
  | false => obtain ⟨o, e, _⟩ := id p; exact Heap.lt_size e
theorem itAt_of {t : Bool} {h : Heap} {it a : Addr} (e : h.get? it = some (itObj t a)) : ItAt t h it a 0 := by
  cases t with
  | true => exact ⟨_, e, rfl, rfl⟩
  | false => exact ⟨_, e, rfl, rfl⟩
theorem itAt_obj {t : Bool} {h : Heap} {it a : Addr} {i : Nat} (p : ItAt t h it a i) : ∃ o, h.get? it = some o ∧ ∀ v, o.data ≠ .cell v := by
  cases t with
  | true => obtain ⟨o, e, _, d⟩ := id p; exact ⟨o, e, fun v q => by rw [d] at q; cases q⟩
  | false => obtain ⟨o, e, _, d⟩ := id p; exact ⟨o, e, fun v q => by rw [d] at q; cases q⟩
theorem itAt_keep {t : Bool} {h h' : Heap} {it a : Addr} {i : Nat} (p : ItAt t h it a i) (k : ∀ o, h.get? it = some o → h'.get? it = some o) : ItAt t h' it a i := by
  cases t with
  | true => exact Heap.IsTupleIter.at p k
  | false => exact Heap.IsListIter.at p k
/-- both as they stand at each turn, the items in new pairs -/
def ItzM (K : PySem.W.Frag) (t u : Bool) (a b : Addr) : It :=
  ⟨fun i H => ∃ (xs ys : List V) (x y : V), SqM K t H a xs ∧ SqM K u H b ys ∧ xs[i]? = some x ∧ ys[i]? = some y,
    fun i H v H' => ∃ T x y, v = .ref T ∧ H T = none ∧ H' = upd H T (.tup [x, y]) ∧ (∀ xs, SqM K t H a xs → xs[i]? = some x) ∧ ∀ ys, SqM K u H b ys → ys[i]? = some y,
    fun i H => ∃ xs ys : List V, SqM K t H a xs ∧ SqM K u H b ys ∧ min xs.length ys.length = i⟩
/-- the walk's own cells at turn i (N: the first of them) -/
def ZpAt (t u : Bool) (N a b : Addr) (i : Nat) (h : Heap) : Prop := IsZip h (N + 4) (N + 2) (N + 3) .none ∧ IsTupOf2 h (N + 2) (.ref N) (.ref (N + 1)) ∧ (∃ a1 a2, IsTupOf2 h (N + 3) a1 a2) ∧ ItAt t h N a i ∧ ItAt u h (N + 1) b i
theorem turn_zipM {P : Program} {w : World} {K : PySem.W.Frag} {elts : List Expr} {kk : Nat} {tpos : Pos} {t u : Bool} {N a b : Addr} (ha : a < N) (hb : b < N) : Turn P w K (.Tuple elts kk tpos) (ItzM K t u a b) [N + 4, N + 2, N + 3, N, N + 1] (N + 4) (ZpAt t u N a b) where
  mem := by simp
  obj := fun i h st c hc => by
    obtain ⟨hz, hTI, ⟨x, y, hTO⟩, h1, h2⟩ := st
    simp only [List.mem_cons, List.not_mem_nil, or_false] at hc
    rcases hc with rfl | rfl | rfl | rfl | rfl
    · exact ⟨_, hz, fun v q => nomatch q⟩
    · obtain ⟨o, e, d⟩ : ∃ o, h.get? (N + 2) = some o ∧ ∀ v, o.data ≠ .cell v := ⟨_, hTI, fun v q => nomatch q⟩
      exact ⟨o, e, d⟩
    · obtain ⟨o, e, d⟩ : ∃ o, h.get? (N + 3) = some o ∧ ∀ v, o.data ≠ .cell v := ⟨_, hTO, fun v q => nomatch q⟩
      exact ⟨o, e, d⟩
    · exact itAt_obj h1
    · exact itAt_obj h2
  keep := fun i h h' st k => by
    obtain ⟨hz, hTI, ⟨x, y, hTO⟩, h1, h2⟩ := st
    exact ⟨k _ (by simp) _ hz, k _ (by simp) _ hTI, ⟨x, y, k _ (by simp) _ hTO⟩, itAt_keep h1 fun o q => k _ (by simp) o q, itAt_keep h2 fun o q => k _ (by simp) o q⟩
  item := by
    intro X hP hw hK hc i pins s σ H E I hf st hg
    subst hP hw hK
    obtain ⟨hz, hTI, hTO, h1, h2⟩ := st
    obtain ⟨xs, ys, x, y, hqx, hqy, hx, hy⟩ := hg
    obtain ⟨its, rv, p⟩ := sqm_at I hqx
    obtain ⟨its2, rv2, p2⟩ := sqm_at I hqy
    obtain ⟨v1, hv1, ru⟩ := rv.get hx
    obtain ⟨v2, hv2, ru2⟩ := rv2.get hy
    have hh : X.A.in1.handled = none := I.ok.hd hc
    have D1 := drw (P := X.prog) (w := X.w) hh t N a (Nat.ne_of_lt ha) its.toArray
    have D2 := drw (P := X.prog) (w := X.w) hh u (N + 1) b (Nat.ne_of_lt (Nat.lt_succ_of_lt hb)) its2.toArray
    have S := zip_sep2 (N := N) (fp1 := [a]) (fp2 := [b]) (by simpa using ha) (by simpa using hb)
    have W := GoesN.zip2 (elts := elts) (x1 := kk) (pos := tpos) S D1 D2
    have hi : i < min its.toArray.size its2.toArray.size := by
      have e1 := (List.getElem?_eq_some_iff.mp hv1).1
      have e2 := (List.getElem?_eq_some_iff.mp hv2).1
      simp only [List.size_toArray]
      omega
    refine W.goes i s (fun v s2 => ∃ x H', Inv X pins σ H' s2 ∧ RelV x v ∧ (ItzM X.K t u a b).yld i H x H' ∧ ZpAt t u N a b (i + 1) s2.heap ∧ ∀ b ∈ [N + 4, N + 2, N + 3, N, N + 1], H' b = none) E hi ⟨hz, hTI, hTO, ⟨h1, p⟩, h2, p2⟩ ?_
    rintro v h' tk ⟨T, w1, w2, rfl, hT, e1, e2, hTp⟩ ⟨z1, z2, z3, ⟨z4, _⟩, z5, _⟩ hk htk
    have f1 : w1 = v1 := by
      have : its.toArray[i]? = some v1 := by simpa using hv1
      rw [this] at e1
      exact (Option.some.inj e1).symm
    have f2 : w2 = v2 := by
      have : its2.toArray[i]? = some v2 := by simpa using hv2
      rw [this] at e2
      exact (Option.some.inj e2).symm
    subst f1 f2
    have hfr : H T = none := I.hok.fresh hT
    have new : ObjOk X.prog X.w (upd H T (.tup [x, y])) h' T (.tup [x, y]) := ⟨by show 2 ≤ sizeLine; decide, [w1, w2], .cons ru (.cons ru2 .nil), hTp⟩
    have I1 : Inv X pins σ (upd H T (.tup [x, y])) { s with heap := h', toks := tk } :=
      I.turnedNew (t' := tk) (ch := [N + 4, N + 2, N + 3, N, N + 1]) (fun c o hb' q => hk c o (fun z => hb' (by simp only [List.mem_cons, List.not_mem_nil, or_false] at z ⊢; rcases z with h | h | h | h <;> simp [h])) q) hf hT new
    refine ⟨.ref T, _, I1, rfl, ⟨T, x, y, rfl, hfr, rfl, fun l hl => by rw [sqm_inj I hl hqx]; exact hx, fun l hl => by rw [sqm_inj I hl hqy]; exact hy⟩, ⟨z1, z2, z3, z4, z5⟩, fun c hcm => ?_⟩
    have hlt : c < s.heap.objs.size := by
      simp only [List.mem_cons, List.not_mem_nil, or_false] at hcm
      rcases hcm with rfl | rfl | rfl | rfl | rfl
      · exact Heap.lt_size hz
      · exact Heap.lt_size hTI
      · obtain ⟨_, _, e⟩ := hTO; exact Heap.lt_size e
      · obtain ⟨_, e, _⟩ := itAt_obj h1; exact Heap.lt_size e
      · obtain ⟨_, e, _⟩ := itAt_obj h2; exact Heap.lt_size e
    rw [upd_ne (Nat.ne_of_lt (Nat.lt_of_lt_of_le hlt hT))]
    exact (hf c hcm).1
  done := by
    intro X hP hw hK hc i pins s σ H E I hf st hg
    subst hP hw hK
    obtain ⟨hz, hTI, hTO, h1, h2⟩ := st
    obtain ⟨xs, ys, hqx, hqy, hend⟩ := hg
    obtain ⟨its, rv, p⟩ := sqm_at I hqx
    obtain ⟨its2, rv2, p2⟩ := sqm_at I hqy
    have hh : X.A.in1.handled = none := I.ok.hd hc
    have D1 := drw (P := X.prog) (w := X.w) hh t N a (Nat.ne_of_lt ha) its.toArray
    have D2 := drw (P := X.prog) (w := X.w) hh u (N + 1) b (Nat.ne_of_lt (Nat.lt_succ_of_lt hb)) its2.toArray
    have S := zip_sep2 (N := N) (fp1 := [a]) (fp2 := [b]) (by simpa using ha) (by simpa using hb)
    have W := GoesN.zip2 (elts := elts) (x1 := kk) (pos := tpos) S D1 D2
    have l1 := rv.length
    have l2 := rv2.length
    have e : min its.toArray.size its2.toArray.size = i := by
      simp only [List.size_toArray]
      omega
    rw [e] at W
    exact W.stops s (fun s1 => Inv X pins σ H s1) E ⟨hz, hTI, hTO, ⟨h1, p⟩, h2, p2⟩ fun h' tk hk htk => I.turnedL (t' := tk) (ch := [N + 4, N + 2, N + 3, N, N + 1]) (fun c o hb' q => hk c o (fun z => hb' (by simp only [List.mem_cons, List.not_mem_nil, or_false] at z ⊢; rcases z with h | h | h | h <;> simp [h])) q) hf
  self := fun A i s Q E st h => wpAny_pyIter_zip st.1 h
def iZipM (K : PySem.W.Frag) (ta : TA) : TI := fun σ H R => ta σ H fun vs H1 => ∃ t u a b xs ys, vs = [.ref a, .ref b] ∧ SqM K t H1 a xs ∧ SqM K u H1 b ys ∧ R (ItzM K t u a b) H1
theorem pi_zipM {X : Cx} {e e2 : Expr} {ta : TA} {p pos tpos : Pos} {elts : List Expr} {kk : Nat} (hg : Gl X "zip") (hm : X.mg "zip" = none) (ha : PA X [e, e2] ta) (h1 : noStar e = true) (h2 : noStar e2 = true) :
    PI X (.Tuple elts kk tpos) (.Call (.Name "zip" p) [e, e2] [] pos) (iZipM X.K ta) := by
  refine ⟨fun pins s σ H R I h => ?_⟩
  have hs : starEach [e, e2] X.env = (false, eval e X.env) :: starEach [e2] X.env := starEach_cons h1
  have hpl : (backTo pos (starEach [e2] X.env)).any (·.1) = false := back_plain (by rw [List.all_cons, h2]; rfl)
  refine Call_ (ld_blt I hg hm PyProof.Rows.boot_zip (PyProof.Rows.callWith_type1 (thn (ha.run pos pins s σ H _ I h) fun us s1 ⟨vs, H1, I1, r1, q1⟩ => ?_) hs hpl))
  obtain ⟨t, u, a, b, xs, ys, rfl, hqx, hqy, q⟩ := q1
  cases r1 with
  | cons r rr =>
    cases rr with
    | cons r' rr =>
      cases rr
      cases r
      cases r'
      obtain ⟨its, rv, pa⟩ := sqm_at I1 hqx
      obtain ⟨its2, rv2, pb⟩ := sqm_at I1 hqy
      refine zip_begins2 (bgn t a its.toArray) (bgn u b its2.toArray) pa pb fun h' hz hTI hTO e1 e2 hsz hk => wpAny_pyIter_zip hz ?_
      have I2 : Inv X pins σ H1 { s1 with heap := h' } := I1.kept (t' := s1.toks) hk
      refine ⟨_, [s1.heap.objs.size + 4, s1.heap.objs.size + 2, s1.heap.objs.size + 3, s1.heap.objs.size, s1.heap.objs.size + 1], _, _, H1, rfl, I2, turn_zipM (t := t) (u := u) (seqAt_lt pa) (seqAt_lt pb), ⟨hz, hTI, ⟨_, _, hTO⟩, itAt_of e1, itAt_of e2⟩, fun c hc => ?_, q⟩
      have hle : s1.heap.objs.size ≤ c := by
        simp only [List.mem_cons, List.not_mem_nil, or_false] at hc
        rcases hc with z | z | z | z | z
        · rw [z]; exact Nat.le_add_right _ _
        · rw [z]; exact Nat.le_add_right _ _
        · rw [z]; exact Nat.le_add_right _ _
        · rw [z]; exact Nat.le_refl _
        · rw [z]; exact Nat.le_add_right _ _
      exact I1.fpOk hle (I1.hok.fresh hle)
/-- the items of two, in pairs -/
def zipL (xs ys : List D) : List D := List.zipWith (fun x y => D.tup [x, y]) xs ys
def zipI (f g : Sl → R EV) : Sl → R (List D) := fun s => (argsE [f, g] s).bind fun es s1 => match evVs es s1 with
  | some ([d1, d2], s2) => match d1.zit, d2.zit with
    | some xs, some ys => .ok (zipL xs ys) s2
    | _, _ => .no
  | _ => .no
theorem zit_at {K : PySem.W.Frag} {cA : Nat → Addr} {F : Hp} {d : D} {xs : List D} {v : V} (h : RepF K cA F d v) (hz : d.zit = some xs) : ∃ t a us, v = .ref a ∧ (∀ H, Same F H → SqM K t H a us) ∧ RepFs K cA F xs us := by
  cases d <;> simp only [D.zit, reduceCtorEq, Option.some.injEq] at hz
  · subst hz
    obtain ⟨a, us, rfl, m, n⟩ := h
    exact ⟨true, a, us, rfl, fun H g => SqT_mono m g, n⟩
  · subst hz
    obtain ⟨a, us, rfl, m, n⟩ := h
    exact ⟨false, a, us, rfl, fun H g => .of (g _ _ m), n⟩
theorem itd_zip {X : Cx} {cA : Nat → Addr} {F : Hp} {t u : Bool} {a b : Addr} {xs ys : List D} {us ws : List V} (m1 : ∀ H, Same F H → SqM X.K t H a us) (m2 : ∀ H, Same F H → SqM X.K u H b ws) (n1 : RepFs X.K cA F xs us) (n2 : RepFs X.K cA F ys ws) : ItD X.K cA F (ItzM X.K t u a b) (zipL xs ys) := by
  intro i H g
  refine ⟨fun d hd => ?_, fun hl => ⟨us, ws, m1 H g, m2 H g, ?_⟩⟩
  · unfold zipL at hd
    obtain ⟨x, y, hx, hy, rfl⟩ : ∃ x y, xs[i]? = some x ∧ ys[i]? = some y ∧ d = .tup [x, y] := by
      rw [List.getElem?_zipWith] at hd
      cases h1 : xs[i]? with
      | none => rw [h1] at hd; cases hd
      | some x =>
        cases h2 : ys[i]? with
        | none => rw [h1, h2] at hd; cases hd
        | some y =>
          rw [h1, h2] at hd
          cases hd
          exact ⟨x, y, rfl, rfl, rfl⟩
    obtain ⟨v, hv, q1⟩ := n1.get hx
    obtain ⟨v', hv', q2⟩ := n2.get hy
    refine ⟨⟨us, ws, v, v', m1 H g, m2 H g, hv, hv'⟩, fun z H' hz => ?_⟩
    obtain ⟨T, w1, w2, rfl, hT, rfl, e1, e2⟩ := hz
    have f1 := e1 us (m1 H g)
    have f2 := e2 ws (m2 H g)
    rw [hv] at f1
    rw [hv'] at f2
    cases f1
    cases f2
    exact ⟨rfl, .inr ⟨T, _, _, hT, rfl, rfl, rfl, v, [v'], rfl, q1, v', [], rfl, q2, rfl⟩⟩
  · unfold zipL at hl
    rw [List.length_zipWith] at hl
    rw [← n1.length, ← n2.length]
    exact hl
theorem si_zip {X : Cx} {cA : Nat → Addr} {W : Gx} {a b : Expr} {f g : Sl → R EV} {p pos tpos : Pos} {elts : List Expr} {kk : Nat} (hg : Gl X "zip") (hm : X.mg "zip" = none) (ha : SE X cA W a f) (hb : SE X cA W b g) (h1 : noStar a = true) (h2 : noStar b = true) : SI X cA W (.Tuple elts kk tpos) (.Call (.Name "zip" p) [a, b] [] pos) (zipI f g) := by
  refine PI_mono (pi_zipM hg hm (sa_cons ha (sa_cons hb sa_nil h2) h1) h1 h2) fun σ H R h => ?_
  obtain ⟨F, fp, s, r, p⟩ := h
  refine ⟨F, fp, s, r, Po.bind p fun es1 s1 _ p1 vs H1 F1 fp1 g1 r1 q1 => ?_⟩
  split at p1
  · rename_i d1 d2 s2 hd
    obtain ⟨F2, fp2, g2, r2, q2⟩ := Eps.evVs r1 q1 hd
    obtain ⟨v1, vr, rfl, w1, v2, vr2, rfl, w2, w3⟩ := q2
    cases (show vr2 = [] from w3)
    split at p1
    · rename_i xs ys z1 z2
      obtain ⟨t, a1, us, rfl, m1, n1⟩ := zit_at w1 z1
      obtain ⟨u, b1, ws, rfl, m2, n2⟩ := zit_at w2 z2
      exact ⟨t, u, a1, b1, us, ws, rfl, m1 H1 r2.fz, m2 H1 r2.fz, p1 _ H1 F2 fp2 (g1.trans g2) r2 (itd_zip m1 m2 n1 n2)⟩
    · exact p1.elim
  · exact p1.elim
end NS
namespace NS
open PySem PySem.Spec PyProof.Rows L2

/-! ## 10. list comprehensions -/
/-- slots forgotten -/
def wipeS (s : Sl) : List Nat → Sl
  | [] => s
  | v :: vs => (wipeS s vs).set v none
def lcL (tt : D → Sl → Option Sl) (vs : List Nat) (c : Sl → R Bool) (f : Sl → R EV) : List D → Sl → List D → R (List D)
  | [], s, acc => .ok acc s
  | d :: ds, s, acc => match tt d (wipeS s vs) with
    | none => .no
    | some s1 => match c s1 with
      | .ok true s2 => match penE f (fun e s => .ok e s) s2 with
        | .ok e s3 => match evV e s3 with
          | some (d', s4) => if fits (acc.length + 1) then lcL tt vs c f ds s4 (acc ++ [d']) else .no
          | none => .no
        | _ => .no
      | .ok false s2 => lcL tt vs c f ds s2 acc
      | _ => .no
def lcE (g : Sl → R (List D)) (tt : D → Sl → Option Sl) (vs : List Nat) (c : Sl → R Bool) (f : Sl → R EV) : Sl → R EV := fun s => (g s).bind fun ds s1 => (lcL tt vs c f ds s1 []).bind fun acc s2 => .ok (.val (.lst true acc)) (wipeS s2 vs)
def yesT : Sl → R Bool := fun s => .ok true s

section
variable {X : Cx} {cA : Nat → Addr} {W : Gx} {e a b c tg : Expr} {es : List Expr} {f g h : Sl → R EV} {pos : Pos}
theorem Rl.wipe {F H : Hp} {fp : Nat → List Addr} {s : Sl} {σ : L2.St} (r : Rl X.K cA F W.P W.pn fp s σ H) : ∀ {vs : List Nat}, (∀ i ∈ vs, W.pn i = none) → ∃ fp', Rl X.K cA F W.P W.pn fp' (wipeS s vs) (L2.wipe σ vs) H ∧ ∀ i, fp' i = fp i ∨ fp' i = []
  | [], _ => ⟨fp, r, fun _ => .inl rfl⟩
  | v :: vs, h => by
    obtain ⟨fp', r', e'⟩ := Rl.wipe r (vs := vs) fun i hi => h i (List.mem_cons_of_mem _ hi)
    refine ⟨_, r'.dropB (h v (by simp)), fun i => ?_⟩
    by_cases hi : i = v
    · subst hi; exact .inr fset_same
    · rw [fset_ne hi]; exact e' i
/-- back in the def's slots -/
theorem Rl.unwipe {F H H0 F0 : Hp} {fp fp0 : Nat → List Addr} {s s0 : Sl} {σ : L2.St} {vs : List Nat} (r : Rl X.K cA F W.P W.pn fp s (L2.wipe σ vs) H) (r0 : Rl X.K cA F0 W.P W.pn fp0 s0 σ H0) : Rl X.K cA F W.P W.pn fp s σ H :=
  ⟨by rw [r.len, wipe_length], r.fz, r.pr, fun i d h => let ⟨v, h1, h2⟩ := r.sl i d h; ⟨v, (wipe_some h1).1, h2⟩, r.nl, r.nd, r.dj, r.fr, r0.pn, r.fd⟩
/-- a block's wishes: nothing is raised -/
abbrev Gx.blk (W : Gx) (P : Hp) : Gx := ⟨fun _ _ _ _ => False, P, W.pn⟩
def tEB (X : Cx) (cA : Nat → Addr) (W : Gx) (f : Sl → R EV) : TE := fun σ H Q => ∃ P, tE X.K cA (W.blk P) f σ H Q
def tTB (X : Cx) (cA : Nat → Addr) (W : Gx) (f : Sl → R Bool) : TT := fun σ H Q => ∃ P, tT X.K cA (W.blk P) f σ H Q
theorem peB {Y : Cx} (hK : Y.K = X.K) (h : ∀ P, SE Y cA (W.blk P) e f) : PE Y e (tEB X cA W f) := ⟨fun pins s σ H Q I ⟨P, q⟩ => (h P).run pins s σ H Q I (by rw [hK]; exact q)⟩
theorem ptB {Y : Cx} {tf : Sl → R Bool} (hK : Y.K = X.K) (h : ∀ P, ST Y cA (W.blk P) e tf) : PT Y e (tTB X cA W tf) := ⟨fun pins s σ H Q I ⟨P, q⟩ => (h P).run pins s σ H Q I (by rw [hK]; exact q)⟩
/-- the block's target -/
structure TgB (X : Cx) (cA : Nat → Addr) (W : Gx) (tg : Expr) (tt : D → Sl → Option Sl) (is : List Nat) (t : TG) : Prop where
  ok : ∀ (P F : Hp) (fp : Nat → List Addr) (s s' : Sl) (σ : L2.St) (H : Hp) (d : D) (v : V) (Q : L2.St → Hp → Prop), Rl X.K cA F P W.pn fp s σ H → RepF X.K cA F d v → d.own = false → tt d s = some s' →
    (∀ σ' fp', Rl X.K cA F P W.pn fp' s' σ' H → (∀ vs, (∀ i ∈ is, i ∈ vs) → L2.wipe σ' vs = L2.wipe σ vs) → Q σ' H) → t v σ H Q
theorem wipe_wipe {vs : List Nat} : ∀ {us : List Nat} {σ : L2.St}, (∀ i ∈ us, i ∈ vs) → L2.wipe (L2.wipe σ us) vs = L2.wipe σ vs
  | [], _, _ => rfl
  | u :: us, σ, h => by
    show L2.wipe ((L2.wipe σ us).set u none) vs = _
    rw [wipe_set (h u (by simp))]
    exact wipe_wipe fun i hi => h i (List.mem_cons_of_mem _ hi)
/-- .. where more stands still than what is shared -/
def ItG (K : PySem.W.Frag) (cA : Nat → Addr) (F G : Hp) (J : It) (ds : List D) : Prop := ∀ (i : Nat) (H : Hp), Same G H → (∀ d, ds[i]? = some d → J.go i H ∧ ∀ x H', J.yld i H x H' → Yl K cA F H d x H') ∧ (ds.length = i → J.stop i H)
theorem Yl.mono {F F' H H' : Hp} {d : D} {x : V} (y : Yl X.K cA F H d x H') (g : Same F F') : Yl X.K cA F' H d x H' := by
  obtain ⟨ho, z⟩ := y
  refine ⟨ho, ?_⟩
  rcases z with ⟨rfl, q⟩ | ⟨p, us, xs, hp, rfl, rfl, e, n⟩
  · exact .inl ⟨rfl, RepF.mono g _ _ q⟩
  · exact .inr ⟨p, us, xs, hp, rfl, rfl, e, n.mono g⟩
theorem lc_okG {F0 F P' H0 G : Hp} {C : List D → Sl → Prop} {J : It} {ds : List D} {fp : Nat → List Addr} {s : Sl} {σ : L2.St} {H1 : Hp} {A : Addr} {Q : VK} {tt : D → Sl → Option Sl} {vs is : List Nat} {tc : Sl → R Bool} {t : TG} (hJ : ItG X.K cA F G J ds) (hG : ∀ (F1 : Hp) (fp1 : Nat → List Addr) (s1 : Sl) (σ1 : L2.St) (H : Hp), Same F F1 → Rl X.K cA F1 W.P W.pn fp1 s1 σ1 H → Same G H) (hv : ∀ i ∈ vs, W.pn i = none) (hi : ∀ i ∈ is, i ∈ vs)
    (ht : TgB X cA W tg tt is t) (r : Rl X.K cA F W.P W.pn fp s σ H1) (hA : H1 A = none)
    (p : Po X.K cA W F σ (lcL tt vs tc f ds s []) C)
    (hC : ∀ (acc : List D) (s2 : Sl) (F1 : Hp) (fp1 : Nat → List Addr) (H : Hp), Same F F1 → Rl X.K cA F1 W.P W.pn fp1 (wipeS s2 vs) σ H → Ev X.K cA F1 W.P H fp1 (wipeS s2 vs) σ (.ref A) (.val (.lst true acc)) → C acc s2 → Q (.ref A) H) :
    ∃ Z : Nat → Nat → Hp → Prop, (∃ m, Z 0 m (upd H1 A (.lst []))) ∧ ∀ i m H, Z i m H →
      (J.stop i H ∧ Q (.ref A) H) ∨ (J.go i H ∧ ∃ Nx : Hp → Prop, (∀ H', Nx H' → ∃ m', m' < m ∧ Z (i + 1) m' H') ∧ ∀ x H', J.yld i H x H' → t x (L2.wipe σ vs) H' fun σ2 H2 => L2.wipe σ2 vs = L2.wipe σ vs ∧ tTB X cA W tc σ2 H2 fun b H3 =>
        if b = true then tEB X cA W f σ2 H3 fun y H4 => ∃ acc, H4 A = some (.lst acc) ∧ acc.length < sizeLine ∧ Nx (upd H4 A (.lst (acc ++ [y]))) else Nx H3) := by
  -- what holds ahead of each turn
  let Pv : Nat → Hp → Prop := fun i H => ∃ F1 fp1 s1 acc accv, Same F F1 ∧ Rl X.K cA F1 W.P W.pn fp1 (wipeS s1 vs) (L2.wipe σ vs) H ∧ H A = some (.lst accv) ∧ RepFs X.K cA F1 acc accv ∧ F1 A = none ∧ W.P A = none ∧ (∀ j, A ∉ fp1 j) ∧
    acc.length ≤ LN ∧ Po X.K cA W F1 σ (lcL tt vs tc f (ds.drop i) s1 acc) C
  refine ⟨fun i m H => m = ds.length - i ∧ i ≤ ds.length ∧ Pv i H, ⟨ds.length, rfl, Nat.zero_le _, ?_⟩, ?_⟩
  · obtain ⟨fp', r', e'⟩ := r.wipe hv
    have hn : ∀ j, A ∉ fp' j := fun j z => by
      obtain ⟨o, z⟩ := r'.there z
      rw [hA] at z; cases z
    refine ⟨F, fp', s, [], [], Same.refl F, r'.new hA _, upd_same, rfl, Same.free r.fz hA, Same.free r.pr hA, hn, Nat.zero_le _, ?_⟩
    exact p
  · rintro i m H ⟨rfl, hi', F1, fp1, s1, acc, accv, g1, r1, hAv, na, fA, pA, nfp, hlen, p1⟩
    obtain ⟨hgo, hstop⟩ := hJ i H (hG _ _ _ _ _ g1 r1)
    by_cases hlt : i < ds.length
    · have hd : ds[i]? = some ds[i] := List.getElem?_eq_getElem hlt
      obtain ⟨go, hy⟩ := hgo _ hd
      refine .inr ⟨go, Pv (i + 1), fun H' h => ⟨ds.length - (i + 1), by omega, rfl, hlt, h⟩, fun x H' y => ?_⟩
      rw [List.drop_eq_getElem_cons hlt] at p1
      have y1 : Yl X.K cA F1 H ds[i] x H' := (hy x H' y).mono g1
      have ho : ds[i].own = false := y1.1
      -- the new list is kept apart
      have rg := r1.guard hAv fA nfp
      obtain ⟨F2, g2, r2, q2⟩ := yl_rep (W := W.blk (upd W.P A (.lst accv))) rg y1
      simp only [lcL] at p1
      cases hs : tt ds[i] (wipeS s1 vs) with
      | none => rw [hs] at p1; exact p1.elim
      | some s2 =>
        rw [hs] at p1
        dsimp only at p1
        refine ht.ok (upd W.P A (.lst accv)) F2 fp1 _ s2 _ H' ds[i] x _ r2 q2 ho hs fun σ2 fp2 r3 hw0 => ?_
        have hw : L2.wipe σ2 vs = L2.wipe σ vs := (hw0 vs hi).trans (wipe_wipe fun _ h => h)
        refine ⟨hw, upd W.P A (.lst accv), F2, fp2, s2, r3, ?_⟩
        -- the test
        have g12 : Same F F2 := g1.trans g2
        cases hc : tc s2 with
        | ex x s3 => rw [hc] at p1; exact p1.elim
        | no => rw [hc] at p1; exact p1.elim
        | ok b s3 =>
          rw [hc] at p1
          refine fun H3 F3 fp3 g3 r4 => ?_
          -- the list's guard, lifted
          have back : ∀ {F4 : Hp} {fp4 : Nat → List Addr} {s4 : Sl} {H4 : Hp} {o : List V}, Rl X.K cA F4 (upd W.P A (.lst accv)) W.pn fp4 s4 σ2 H4 → ∃ fp5, Rl X.K cA F4 W.P W.pn fp5 (wipeS s4 vs) (L2.wipe σ vs) H4 ∧ (∀ j, A ∉ fp5 j) ∧ H4 A = some (.lst accv) ∧ F4 A = none := by
            intro F4 fp4 s4 H4 o r5
            obtain ⟨fp5, r6, e6⟩ := Rl.wipe (W := W.blk (upd W.P A (.lst accv))) r5 (vs := vs) hv
            rw [hw] at r6
            refine ⟨fp5, r6.unguard (same_upd pA _), fun j z => ?_, r5.pr _ _ upd_same, r5.fd _ _ upd_same⟩
            have z2 : upd W.P A (.lst accv) A = none := (r6.fr j A z).2
            rw [upd_same] at z2
            cases z2
          cases b with
          | false =>
            refine iteF ?_
            dsimp only at p1
            obtain ⟨fp5, r5, n5, hA5, f5⟩ := back (o := accv) r4
            exact ⟨F3, fp5, s3, acc, accv, g12.trans g3, r5, hA5, na.mono (g2.trans g3), f5, pA, n5, hlen, Po.up (g2.trans g3) p1 fun acc' s' _ z => z⟩
          | true =>
            refine iteT ⟨upd W.P A (.lst accv), F3, fp3, s3, r4, ?_⟩
            unfold penE at p1
            dsimp only at p1
            cases hf : f s3 with
            | ex x s4 => rw [hf] at p1; exact p1.elim
            | no => rw [hf] at p1; exact p1.elim
            | ok ev s4 =>
              rw [hf] at p1
              simp only [NS.R.bind] at p1
              intro yv H4 F4 fp4 g4 r5 q5
              obtain ⟨F5, g5, r6, q6⟩ := Ev.pend (W := W.blk (upd W.P A (.lst accv))) r5 q5
              cases hv5 : evV ev.pend s4 with
              | none => rw [hv5] at p1; exact p1.elim
              | some dd =>
                obtain ⟨d', s5⟩ := dd
                rw [hv5] at p1
                dsimp only at p1
                obtain ⟨F6, fp6, g6, r7, q7, _⟩ := Ep.evV (W := W.blk (upd W.P A (.lst accv))) r6 q6 hv5
                split at p1
                · rename_i hfit
                  obtain ⟨fp7, r8, n8, hA8, f8⟩ := back (o := accv) r7
                  have hl := na.length
                  have gg : Same F1 F6 := (g2.trans g3).trans (g4.trans (g5.trans g6))
                  have hfl := fits_le hfit
                  refine ⟨accv, hA8, Nat.lt_of_lt_of_le (by omega : accv.length < LN) LN_le, F6, fp7, s5, acc ++ [d'], accv ++ [yv], g1.trans gg, r8.other f8 pA n8, upd_same, (na.mono gg).append (RepFs.one q7), f8, pA, n8, ?_, ?_⟩
                  · rw [List.length_append, List.length_singleton]; exact hfl
                  · exact Po.up gg p1 fun acc' s' _ z => z
                · exact p1.elim
    · have e : i = ds.length := by omega
      subst e
      rw [List.drop_length] at p1
      refine .inl ⟨hstop rfl, ?_⟩
      have p2 : C acc s1 := p1
      refine hC acc s1 F1 fp1 H g1 (Rl.unwipe r1 r) ⟨[A], ⟨A, accv, rfl, hAv, na, rfl⟩, by simp, fun j b hb hj => ?_, fun b hb => ?_⟩ p2
      · rw [List.mem_singleton.mp hb] at hj
        exact nfp j hj
      · rw [List.mem_singleton.mp hb]
        exact ⟨fA, pA⟩
theorem lc_ok {F0 F P' H0 : Hp} {J : It} {ds : List D} {fp : Nat → List Addr} {s : Sl} {σ : L2.St} {H1 : Hp} {A : Addr} {Q : VK} {tt : D → Sl → Option Sl} {vs is : List Nat} {tc : Sl → R Bool} {t : TG} (hJ : ItD X.K cA F J ds) (hv : ∀ i ∈ vs, W.pn i = none) (hi : ∀ i ∈ is, i ∈ vs)
    (ht : TgB X cA W tg tt is t) (r : Rl X.K cA F W.P W.pn fp s σ H1) (hA : H1 A = none)
    (p : Po X.K cA W F σ (lcL tt vs tc f ds s []) fun acc s2 => Po X.K cA W F σ (.ok (.val (.lst true acc)) (wipeS s2 vs)) (KE X.K cA W F σ Q)) :
    ∃ Z : Nat → Nat → Hp → Prop, (∃ m, Z 0 m (upd H1 A (.lst []))) ∧ ∀ i m H, Z i m H →
      (J.stop i H ∧ Q (.ref A) H) ∨ (J.go i H ∧ ∃ Nx : Hp → Prop, (∀ H', Nx H' → ∃ m', m' < m ∧ Z (i + 1) m' H') ∧ ∀ x H', J.yld i H x H' → t x (L2.wipe σ vs) H' fun σ2 H2 => L2.wipe σ2 vs = L2.wipe σ vs ∧ tTB X cA W tc σ2 H2 fun b H3 =>
        if b = true then tEB X cA W f σ2 H3 fun y H4 => ∃ acc, H4 A = some (.lst acc) ∧ acc.length < sizeLine ∧ Nx (upd H4 A (.lst (acc ++ [y]))) else Nx H3) := by
  refine lc_okG (F0 := F0) (P' := P') (H0 := H0) hJ (fun F1 fp1 s1 σ1 H g r => g.trans r.fz) hv hi ht r hA p (fun acc s2 F1 fp1 H g r q c => ?_)
  have c : KE X.K cA W F σ Q (.val (.lst true acc)) (wipeS s2 vs) := c
  exact c _ H F1 fp1 g r q
/-- a block's parts -/
structure BkOk (X : Cx) (cA : Nat → Addr) (W : Gx) (scope : Scope) (tg : Expr) (ifs : List Expr) (elt : Expr) (own : List (Str × Nat)) (tt : D → Sl → Option Sl) (is : List Nat) (tc : Sl → R Bool) (f : Sl → R EV) : Prop where
  blk : BlkOk X.N X.env.scope scope own
  pn : ∀ i ∈ own.map (·.2), W.pn i = none
  sub : ∀ i ∈ is, i ∈ own.map (·.2)
  tgt : ∃ t, TgB X cA W tg tt is t ∧ ∀ (s : Shared) (H : Hp) (C : Addr) (cl : List (Str × Addr)) (fp : List Addr), PG (X.blk s H scope (compEnvC scope cl C X.env) fp) tg t
  tst : ∀ (s : Shared) (H : Hp) (C : Addr) (cl : List (Str × Addr)) (fp : List Addr), PTs (X.blk s H scope (compEnvC scope cl C X.env) fp) ifs (tTB X cA W tc)
  elt : ∀ (s : Shared) (H : Hp) (C : Addr) (cl : List (Str × Addr)) (fp : List Addr), PE (X.blk s H scope (compEnvC scope cl C X.env) fp) elt (tEB X cA W f)
theorem lc_run {iter elt : Expr} {ifs : List Expr} {scope : Scope} {own : List (Str × Nat)} {gi : Sl → R (List D)} {tt : D → Sl → Option Sl} {is : List Nat} {tc : Sl → R Bool} {t : TG} (hv : ∀ i ∈ own.map (·.2), W.pn i = none) (hs : ∀ i ∈ is, i ∈ own.map (·.2)) (ht : TgB X cA W tg tt is t) {σ : L2.St} {H : Hp} {Q : VK}
    (h : tE X.K cA W (lcE gi tt (own.map (·.2)) tc f) σ H Q) : tLc (tI X.K cA W gi) t (tTB X cA W tc) (tEB X cA W f) (own.map (·.2)) σ H Q := by
  obtain ⟨F, fp, s, r, p⟩ := h
  refine ⟨F, fp, s, r, Po.bind p fun ds s1 _ p1 J H1 F1 fp1 g1 r1 hJ A hA => ?_⟩
  refine lc_ok (F0 := F) (P' := F) (H0 := H) hJ hv hs ht r1 hA (Po.up g1 (Po.bind p1 fun acc s2 _ z => z) fun acc s2 _ z => Po.up g1 z fun _ _ _ z => KE_mono _ _ _ _ g1 z)
theorem se_lc {iter elt : Expr} {ifs : List Expr} {scope : Scope} {own : List (Str × Nat)} {gi : Sl → R (List D)} {tt : D → Sl → Option Sl} {is : List Nat} {tc : Sl → R Bool} (hc : X.calm = true) (hN : X.N.Nodup) (hi : SI X cA W tg iter gi) (hb : BkOk X cA W scope tg ifs elt own tt is tc f) (hs : notSet iter = true) :
    SE X cA W (.ListComp elt [⟨tg, iter, ifs, 0⟩] scope pos) (lcE gi tt (own.map (·.2)) tc f) := by
  obtain ⟨t, ht, hg⟩ := hb.tgt
  exact PE_mono (pe_lc hc hN hi hb.blk hg hb.tst hb.elt (folded_eq hs)) fun σ H Q h => lc_run (iter := iter) (elt := elt) (ifs := ifs) (scope := scope) hb.pn hb.sub ht h
theorem lcL_ne (tt : D → Sl → Option Sl) (vs : List Nat) (c : Sl → R Bool) (f : Sl → R EV) : ∀ (ds : List D) (s : Sl) (acc : List D) {x : Xn} {s' : Sl}, lcL tt vs c f ds s acc ≠ .ex x s'
  | [], s, acc, x, s', h => by simp [lcL] at h
  | d :: ds, s, acc, x, s', h => by
    unfold lcL at h
    split at h
    · cases h
    · split at h
      · split at h
        · split at h
          · split at h
            · exact lcL_ne tt vs c f ds _ _ h
            · cases h
          · cases h
        · cases h
      · exact lcL_ne tt vs c f ds _ _ h
      · cases h
/-- a slot's own list walked: it stays the slot's own -/
def lcB (i : Nat) (tt : D → Sl → Option Sl) (vs : List Nat) (c : Sl → R Bool) (f : Sl → R EV) : Sl → R EV := fun s => match s[i]? with
  | some (some (.lst true xs)) => if plainL xs && !vs.contains i then (lcL tt vs c f xs (s.set i none) []).bind fun acc s2 => match (wipeS s2 vs)[i]? with
    | some none => .ok (.val (.lst true acc)) ((wipeS s2 vs).set i (some (.lst true xs)))
    | _ => .no else .no
  | _ => lcE (plI (seqI (nameE i))) tt vs c f s
theorem Rl.restore {F P H : Hp} {pn : Nat → Option V} {fp : Nat → List Addr} {s : Sl} {σ : L2.St} {i : Nat} {p : Addr} {vs : List V} {xs : List D} (r : Rl X.K cA F (upd P p (.lst vs)) pn fp s σ H) (hP : P p = none) (hi : i < s.length) (hv : σ[i]? = some (some (.ref p))) (n : RepFs X.K cA F xs vs) :
    Rl X.K cA F P pn (fset fp i [p]) (s.set i (some (.lst true xs))) σ H := by
  have hH : H p = some (.lst vs) := r.pr _ _ upd_same
  have hF : F p = none := r.fd _ _ upd_same
  have r1 := r.unguard (same_upd hP (.lst vs))
  have r2 := r1.put (i := i) (d := .lst true xs) (v := .ref p) (l := [p]) hi ⟨p, vs, rfl, hH, n, rfl⟩ (by simp) (fun j a ha hj => by
    rw [List.mem_singleton.mp ha] at hj
    have z : upd P p (.lst vs) p = none := (r.fr j p hj).2
    rw [upd_same] at z
    cases z) (fun a ha => by rw [List.mem_singleton.mp ha]; exact ⟨hF, hP⟩) (fun u hu => by
    have := r.pn i u hu
    rw [hv] at this
    cases this
    rfl)
  have e2 : σ.set i (some (.ref p)) = σ := by
    apply List.ext_getElem?
    intro k
    by_cases hk : k = i
    · subst hk
      rw [List.getElem?_set_self (List.getElem?_eq_some_iff.mp hv).1, hv]
    · rw [List.getElem?_set_ne (Ne.symm hk)]
  rw [e2] at r2
  exact r2
theorem Vl.own_list {F H : Hp} {xs : List D} {v : V} {l : List Addr} (h : Vl X.K cA F H (.lst true xs) v l) : ∃ a vs, v = .ref a ∧ H a = some (.lst vs) ∧ RepFs X.K cA F xs vs ∧ l = [a] := h
theorem lcb_run {x : Str} {p1 : Pos} {i : Nat} {elt : Expr} {ifs : List Expr} {scope : Scope} {own : List (Str × Nat)} {tt : D → Sl → Option Sl} {is : List Nat} {tc : Sl → R Bool} {t : TG} (hv : ∀ i ∈ own.map (·.2), W.pn i = none) (hs : ∀ i ∈ is, i ∈ own.map (·.2)) (ht : ∀ W', W'.pn = W.pn → TgB X cA W' tg tt is t) {σ : L2.St} {H : Hp} {Q : VK}
    (h : tE X.K cA W (lcB i tt (own.map (·.2)) tc f) σ H Q) : tLc (fun σ H R => iAll X.K (tE X.K cA W (nameE i)) σ H R ∨ tI X.K cA W (plI (seqI (nameE i))) σ H R) t (tTB X cA W tc) (tEB X cA W f) (own.map (·.2)) σ H Q := by
  obtain ⟨F, fp, s, r, p⟩ := h
  unfold lcB at p
  split at p
  · rename_i xs hxs
    split at p
    · rename_i hc
      rw [Bool.and_eq_true] at hc
      obtain ⟨hpl, hni⟩ := hc
      refine .inl ⟨F, fp, s, r, ?_⟩
      unfold nameE
      rw [hxs]
      simp only [D.own, if_true]
      intro v H1 F1 fp1 g1 r1 q1
      obtain ⟨_, hv1⟩ := q1
      obtain ⟨u, hu, w⟩ := r1.sl i _ hxs
      rw [hv1] at hu
      cases hu
      obtain ⟨a, vs, rfl, m, n, hf⟩ := Vl.own_list w
      have hfr := r1.fr i a (by rw [hf]; simp)
      refine .inl ⟨a, rfl, ⟨vs, .of m⟩, fun A hA => ?_⟩
      have rd := (r1.drop i).guard m hfr.1 (fun j z => by
        by_cases hj : j = i
        · subst hj; rw [fset_same] at z; cases z
        · rw [fset_ne hj] at z
          exact hj (r1.dj j i a z (by rw [hf]; simp)))
      have hPA : W.P a = none := hfr.2
      refine lc_okG (W := ⟨W.w, upd W.P a (.lst vs), W.pn⟩) (F0 := F1) (P' := F1) (H0 := H1) (F := F1) (ds := xs) (G := upd F1 a (.lst vs)) (C := fun acc s2 => Po X.K cA W F1 σ (match (wipeS s2 (own.map (·.2)))[i]? with
        | some none => R.ok (EV.val (.lst true acc)) ((wipeS s2 (own.map (·.2))).set i (some (.lst true xs)))
        | _ => .no) (KE X.K cA W F1 σ Q)) ?_ ?_ hv hs (ht _ rfl) rd hA ?_ ?_
      · intro j H2 g2
        have hS : SqL X.K H2 a vs := .of (g2 a _ upd_same)
        refine ⟨fun d hd => ?_, fun hl => ⟨vs, hS, by rw [← n.length]; exact Nat.le_of_eq hl⟩⟩
        obtain ⟨y, hy, q⟩ := n.get hd
        refine ⟨⟨vs, y, hS, hy⟩, fun z H' yl => ?_⟩
        obtain ⟨rfl, yl⟩ := yl
        have := yl vs hS
        rw [hy] at this
        cases this
        exact ⟨plain_at hpl hd, .inl ⟨rfl, q⟩⟩
      · intro F2 fp2 s2 σ2 H2 g2 r2 b o hb
        by_cases hba : b = a
        · subst hba
          rw [upd_same] at hb
          cases hb
          exact r2.pr _ _ upd_same
        · rw [upd_ne hba] at hb
          exact r2.fz _ _ (g2 _ _ hb)
      · have p1 := Po.up g1 p (C' := KE X.K cA W F1 σ Q) (fun b s _ z => KE_mono _ _ _ _ g1 z)
        revert p1
        cases hL : lcL tt (own.map (·.2)) tc f xs (s.set i none) [] with
        | ok acc s2 => exact fun p1 => p1
        | ex x s2 => exact fun p1 => absurd hL (lcL_ne _ _ _ _ _ _ _)
        | no => exact fun p1 => p1
      · intro acc s2 F2 fp2 H2 g2 r2 q2 c
        split at c
        · rename_i hsn
          have hlt : i < (wipeS s2 (own.map (·.2))).length := (List.getElem?_eq_some_iff.mp hsn).1
          have r3 := Rl.restore (xs := xs) r2 hPA hlt hv1 (n.mono g2)
          obtain ⟨l, w1, nd, dj, fr⟩ := q2
          refine c (.ref A) H2 F2 _ g2 r3 ⟨l, w1, nd, fun j b hb hj => ?_, fun b hb => ⟨(fr b hb).1, ?_⟩⟩
          · by_cases hji : j = i
            · subst hji
              rw [fset_same] at hj
              rw [List.mem_singleton.mp hj] at hb
              have z : upd W.P a (.lst vs) a = none := (fr a hb).2
              rw [upd_same] at z
              cases z
            · rw [fset_ne hji] at hj
              exact dj j b hb hj
          · have z : upd W.P a (.lst vs) b = none := (fr b hb).2
            by_cases hba : b = a
            · subst hba; rw [upd_same] at z; cases z
            · rw [upd_ne hba] at z; exact z
        · exact c.elim
    · exact p.elim
  · refine .inr ?_
    exact lc_run (iter := elt) (elt := elt) (ifs := ifs) (scope := scope) hv hs (ht W rfl) ⟨F, fp, s, r, p⟩
/-- name = e, e's value at hand -/
theorem set_tail {i : Nat} {D : Ends} {σ : L2.St} {H : Hp} (hp : W.pn i = none) (h : tS X.K cA W (setS i f) D σ H) : tE X.K cA W f σ H fun x H1 => gName i x σ H1 D.nx := by
  obtain ⟨F, fp, s, r, p⟩ := h
  refine ⟨F, fp, s, r, PoS.to p fun ev s1 _ p1 v H1 F1 fp1 g1 r1 q1 => ?_⟩
  split at p1
  · split at p1
    · rename_i d hb
      obtain ⟨l, q, nd, dj, fr⟩ := q1
      exact p1 _ H1 F1 _ g1 (r1.put (Nat.blt_eq.mp hb) q nd (fun j a h1 h2 => (dj j a h1 h2).elim) fr (fun u z => by rw [hp] at z; cases z))
    · exact p1.elim
  · rename_i j hfs
    split at p1
    · rename_i x d hd
      split at p1
      · rename_i hb
        obtain ⟨_, hv⟩ := q1
        obtain ⟨u, hu, q⟩ := r1.sl j d hd
        rw [hv] at hu
        cases hu
        have r2 := r1.freeze hd
        have e2 := r1.fsame j
        have q2 : RepF X.K cA (fzn F1 H1 (fp1 j)) d.frz v := Vl.freeze e2 d v _ q (fun a ha o z => by rw [fzn_in ha]; exact z)
        exact p1 _ H1 _ _ (g1.trans e2) (putF r2 (by rw [List.length_set]; exact Nat.blt_eq.mp hb) q2 (NS.D.frz_own d) hp)
      · exact p1.elim
    · exact p1.elim
/-- name = [..] -/
theorem ss_setLc {i : Nat} {y : Str} {py : Pos} {spos : Pos} {iter elt : Expr} {ifs : List Expr} {scope : Scope} {own : List (Str × Nat)} {gi : Sl → R (List D)} {tt : D → Sl → Option Sl} {is : List Nat} {tc : Sl → R Bool} (hc : X.calm = true) (hN : X.N.Nodup) (hy : X.N[i]? = some y) (hyl : X.env.scope.names.lookup y = some .local)
    (hp : W.pn i = none) (hsw : swapsWith (.ListComp elt [⟨tg, iter, ifs, 0⟩] scope pos) (some (.Name y py)) spos.line X.env = pure true) (hi : SI X cA W tg iter gi) (hb : BkOk X cA W scope tg ifs elt own tt is tc f) (hs : notSet iter = true) :
    SS X cA W (.Assign [.Name y py] (.ListComp elt [⟨tg, iter, ifs, 0⟩] scope pos) spos) (setS i (lcE gi tt (own.map (·.2)) tc f)) := by
  obtain ⟨t, ht, hg⟩ := hb.tgt
  refine PS_mono (ps_setLc hc hN hy hyl hsw hi hb.blk hg hb.tst hb.elt (folded_eq hs)) fun D σ H h => ?_
  show tLc _ _ _ _ _ σ H (fun x H1 => gName i x σ H1 D.nx)
  exact lc_run (W := W) (iter := iter) (elt := elt) (ifs := ifs) (scope := scope) hb.pn hb.sub ht (set_tail hp h)
theorem tgb_any {tt : D → Sl → Option Sl} {is : List Nat} {t : TG} (ht : TgB X cA W tg tt is t) (W' : Gx) (e : W'.pn = W.pn) : TgB X cA W' tg tt is t := ⟨by rw [e]; exact ht.ok⟩
theorem pi_own {x : Str} {p1 : Pos} {i : Nat} (hx : SE X cA W (.Name x p1) (nameE i)) : PI X tg (.Name x p1) (fun σ H R => iAll X.K (tE X.K cA W (nameE i)) σ H R ∨ tI X.K cA W (plI (seqI (nameE i))) σ H R) :=
  ⟨fun pins s σ H R I h => h.elim (fun h => (pi_all hx).run pins s σ H R I h) fun h => (si_seq hx).run pins s σ H R I h⟩
/-- walked in place where it can be, else shared -/
def lcO (i : Nat) (tt : D → Sl → Option Sl) (vs : List Nat) (c : Sl → R Bool) (f : Sl → R EV) : Sl → R EV := fun s => match lcB i tt vs c f s with
  | .no => lcE (plI (seqI (nameE i))) tt vs c f s
  | r => r
theorem lco_run {x : Str} {p1 : Pos} {i : Nat} {elt : Expr} {ifs : List Expr} {scope : Scope} {own : List (Str × Nat)} {tt : D → Sl → Option Sl} {is : List Nat} {tc : Sl → R Bool} {t : TG} (hv : ∀ i ∈ own.map (·.2), W.pn i = none) (hs : ∀ i ∈ is, i ∈ own.map (·.2)) (ht : ∀ W', W'.pn = W.pn → TgB X cA W' tg tt is t) {σ : L2.St} {H : Hp} {Q : VK}
    (h : tE X.K cA W (lcO i tt (own.map (·.2)) tc f) σ H Q) : tLc (fun σ H R => iAll X.K (tE X.K cA W (nameE i)) σ H R ∨ tI X.K cA W (plI (seqI (nameE i))) σ H R) t (tTB X cA W tc) (tEB X cA W f) (own.map (·.2)) σ H Q := by
  obtain ⟨F, fp, s, r, p⟩ := h
  unfold lcO at p
  split at p
  · exact .inr (lc_run (iter := elt) (elt := elt) (ifs := ifs) (scope := scope) hv hs (ht W rfl) ⟨F, fp, s, r, p⟩)
  · exact lcb_run (x := x) (p1 := p1) (elt := elt) (ifs := ifs) (scope := scope) hv hs ht ⟨F, fp, s, r, p⟩
theorem se_lcO {x : Str} {p1 : Pos} {i : Nat} {elt : Expr} {ifs : List Expr} {scope : Scope} {own : List (Str × Nat)} {tt : D → Sl → Option Sl} {is : List Nat} {tc : Sl → R Bool} (hc : X.calm = true) (hN : X.N.Nodup) (hx : SE X cA W (.Name x p1) (nameE i)) (hb : BkOk X cA W scope tg ifs elt own tt is tc f) :
    SE X cA W (.ListComp elt [⟨tg, .Name x p1, ifs, 0⟩] scope pos) (lcO i tt (own.map (·.2)) tc f) := by
  obtain ⟨t, ht, hg⟩ := hb.tgt
  exact PE_mono (pe_lc hc hN (pi_own hx) hb.blk hg hb.tst hb.elt (folded_eq rfl)) fun σ H Q h => lco_run (x := x) (p1 := p1) (elt := elt) (ifs := ifs) (scope := scope) hb.pn hb.sub (tgb_any ht) h
theorem ss_setLcO {j : Nat} {y x : Str} {py p1 : Pos} {spos : Pos} {i : Nat} {elt : Expr} {ifs : List Expr} {scope : Scope} {own : List (Str × Nat)} {tt : D → Sl → Option Sl} {is : List Nat} {tc : Sl → R Bool} (hc : X.calm = true) (hN : X.N.Nodup) (hy : X.N[i]? = some y) (hyl : X.env.scope.names.lookup y = some .local)
    (hp : W.pn i = none) (hsw : swapsWith (.ListComp elt [⟨tg, .Name x p1, ifs, 0⟩] scope pos) (some (.Name y py)) spos.line X.env = pure true) (hx : SE X cA W (.Name x p1) (nameE j)) (hb : BkOk X cA W scope tg ifs elt own tt is tc f) :
    SS X cA W (.Assign [.Name y py] (.ListComp elt [⟨tg, .Name x p1, ifs, 0⟩] scope pos) spos) (setS i (lcO j tt (own.map (·.2)) tc f)) := by
  obtain ⟨t, ht, hg⟩ := hb.tgt
  refine PS_mono (ps_setLc hc hN hy hyl hsw (pi_own hx) hb.blk hg hb.tst hb.elt (folded_eq rfl)) fun D σ H h => ?_
  show tLc _ _ _ _ _ σ H (fun x H1 => gName i x σ H1 D.nx)
  exact lco_run (W := W) (x := x) (p1 := p1) (elt := elt) (ifs := ifs) (scope := scope) hb.pn hb.sub (tgb_any ht) (set_tail hp h)
end
end NS
namespace NS
open PySem PySem.Spec PyProof.Rows L2

/-! ## 11. calls of own functions -/
/-- a call's end: the value, the parameters' last values -/
inductive CR where
  | ok (d : D) (ds : Sl)
  | ex (x : Xn) (ds : Sl)
  | no
def takeE (e : EV) (s : Sl) : Option (D × Sl) := match e with
  | .val d => some (d.frz, s)
  | .al i => match s[i]? with
    | some (some d) => some (d, s.set i none)
    | _ => none
def takeA : List Bool → List EV → Sl → Option (List D × Sl)
  | [], [], s => some ([], s)
  | p :: ps, e :: es, s => (if p then takeE e s else evV e s).bind fun q => (takeA ps es q.2).bind fun r => some (q.1 :: r.1, r.2)
  | _, _, _ => none
def giveA : List Bool → List EV → Sl → Sl → Sl
  | p :: ps, .al i :: es, d :: ds, s => giveA ps es ds (if p then s.set i d else s)
  | _ :: ps, .val _ :: es, _ :: ds, s => giveA ps es ds s
  | _, _, _, s => s
def callK (cal : List D → CR) (pins : List Bool) (es : List EV) (s : Sl) : R EV := match takeA pins es s with
  | none => .no
  | some (ds, s2) => match cal ds with
    | .ok d ds' => if Nat.beq ds'.length pins.length then .ok (.val d) (giveA pins es ds' s2) else .no
    | .ex x ds' => if Nat.beq ds'.length pins.length then .ex x (giveA pins es ds' s2) else .no
    | .no => .no
def callE (cal : List D → CR) (pins : List Bool) (fs : List (Sl → R EV)) : Sl → R EV := fun s => (argsE fs s).bind (callK cal pins)
def pnOf (pins : List Bool) (vs : List V) : Nat → Option V := fun i => if pins[i]? = some true then vs[i]? else none

section
variable (K : PySem.W.Frag) (cA : Nat → Addr)
/-- a def's promise: what cal says -/
def spF (cal : List D → CR) (pins : List Bool) : Sp := fun vs H Q E => ∃ F P fp ds, Rl K cA F P (pnOf pins vs) fp (ds.map some) (vs.map some) H ∧ ds.length = pins.length ∧ match cal ds with
  | .no => False
  | .ok d ds' => ds'.length = pins.length ∧ ∀ v H' F' fp', Same F F' → Rl K cA F' P (pnOf pins vs) fp' ds' (vs.map some) H' → Ev K cA F' P H' fp' ds' (vs.map some) v (.val d) → Q v H'
  | .ex x ds' => ds'.length = pins.length ∧ ∀ cls dx H' F' fp', Same F F' → Rl K cA F' P (pnOf pins vs) fp' ds' (vs.map some) H' → XnOk K cA F' H' x cls dx → E cls dx H'
end
section
variable {K : PySem.W.Frag} {cA : Nat → Addr} {F F' P P' H H' : Hp} {pn : Nat → Option V} {fp fp' : Nat → List Addr} {s s' acc : Sl} {σ σ' accv : L2.St}
theorem app_l {α : Type} {s t : List α} {i : Nat} {x : α} (h : s[i]? = some x) : (s ++ t)[i]? = some x := by
  rw [List.getElem?_append_left (List.getElem?_eq_some_iff.mp h).1]
  exact h
/-- one more slot -/
theorem Rl.push (r : Rl K cA F P pn fp s σ H) {d : D} {v : V} {l : List Addr} (q : Vl K cA F H d v l) (nd : l.Nodup) (dj : ∀ j a, a ∈ l → a ∈ fp j → False) (fr : ∀ a ∈ l, F a = none ∧ P a = none) : Rl K cA F P pn (fset fp s.length l) (s ++ [some d]) (σ ++ [some v]) H := by
  have hl := r.len
  refine ⟨by rw [List.length_append, List.length_append, hl]; rfl, r.fz, r.pr, fun j d' h => ?_, fun j h => ?_, fun j => ?_, fun j k a h1 h2 => ?_, fun j a h => ?_, fun j u h => app_l (r.pn j u h), r.fd⟩
  · by_cases hj : j = s.length
    · subst hj
      rw [List.getElem?_concat_length] at h
      cases h
      exact ⟨v, by rw [hl, List.getElem?_concat_length], by rw [fset_same]; exact q⟩
    · have hlt : j < s.length := by
        have := (List.getElem?_eq_some_iff.mp h).1
        rw [List.length_append, List.length_singleton] at this
        omega
      rw [List.getElem?_append_left hlt] at h
      obtain ⟨u, h1, h2⟩ := r.sl j d' h
      exact ⟨u, app_l h1, by rw [fset_ne hj]; exact h2⟩
  · by_cases hj : j = s.length
    · subst hj
      exact absurd (List.getElem?_concat_length) (h d)
    · rw [fset_ne hj]
      exact r.nl j fun d' z => h d' (app_l z)
  · by_cases hj : j = s.length
    · subst hj; rw [fset_same]; exact nd
    · rw [fset_ne hj]; exact r.nd j
  · by_cases hj : j = s.length
    · subst hj
      rw [fset_same] at h1
      by_cases hk : k = s.length
      · exact hk.symm
      · rw [fset_ne hk] at h2; exact (dj k a h1 h2).elim
    · rw [fset_ne hj] at h1
      by_cases hk : k = s.length
      · subst hk; rw [fset_same] at h2; exact (dj j a h2 h1).elim
      · rw [fset_ne hk] at h2; exact r.dj j k a h1 h2
  · by_cases hj : j = s.length
    · subst hj; rw [fset_same] at h; exact fr a h
    · rw [fset_ne hj] at h; exact r.fr j a h
theorem evV_app {ev : EV} {d : D} (e : evV ev s = some (d, s')) : evV ev (s ++ acc) = some (d, s' ++ acc) := by
  cases ev with
  | val d' =>
    simp only [evV, Option.some.injEq, Prod.mk.injEq] at e ⊢
    obtain ⟨rfl, rfl⟩ := e
    exact ⟨rfl, rfl⟩
  | al i =>
    simp only [evV] at e ⊢
    split at e
    · rename_i d' hd
      rw [app_l hd]
      simp only [Option.some.injEq, Prod.mk.injEq] at e ⊢
      obtain ⟨rfl, rfl⟩ := e
      refine ⟨rfl, ?_⟩
      rw [List.set_append_left _ _ (List.getElem?_eq_some_iff.mp hd).1]
    · cases e
theorem evV_len {ev : EV} {d : D} (e : evV ev s = some (d, s')) : s'.length = s.length := by
  cases ev with
  | val d' =>
    simp only [evV, Option.some.injEq, Prod.mk.injEq] at e
    obtain ⟨_, rfl⟩ := e
    rfl
  | al i =>
    simp only [evV] at e
    split at e
    · simp only [Option.some.injEq, Prod.mk.injEq] at e
      obtain ⟨_, rfl⟩ := e
      rw [List.length_set]
    · cases e
theorem Ep.app {v : V} {ev : EV} (h : Ep K cA F σ v ev) : Ep K cA F (σ ++ accv) v ev := by
  cases ev with
  | val d => exact h
  | al i => exact app_l h
/-- the arguments become slots of their own -/
theorem take_ok : ∀ {pins : List Bool} {es : List EV} {ds : List D} {vs : List V} {F : Hp} {fp : Nat → List Addr} {s s' acc : Sl} {accv : L2.St}, Rl K cA F P pn fp (s ++ acc) (σ ++ accv) H → s.length = σ.length → Eps K cA F σ vs es → takeA pins es s = some (ds, s') →
    ∃ F' fp', Same F F' ∧ Rl K cA F' P pn fp' (s' ++ (acc ++ ds.map some)) (σ ++ (accv ++ vs.map some)) H ∧ ds.length = pins.length ∧ s'.length = s.length ∧ vs.length = pins.length
  | [], [], ds, vs, F, fp, s, s', acc, accv, r, hl, q, e => by
    simp only [takeA, Option.some.injEq, Prod.mk.injEq] at e
    obtain ⟨rfl, rfl⟩ := e
    cases vs with
    | nil => exact ⟨F, fp, Same.refl F, by simpa using r, rfl, rfl, rfl⟩
    | cons v vs => obtain ⟨_, _, z, _⟩ := q; cases z
  | p :: ps, ev :: es, ds, vs, F, fp, s, s', acc, accv, r, hl, q, e => by
    simp only [takeA] at e
    obtain ⟨⟨d, s1⟩, e1, e⟩ := Option.bind_eq_some_iff.mp e
    obtain ⟨⟨ds1, s2⟩, e2, e⟩ := Option.bind_eq_some_iff.mp e
    simp only [Option.some.injEq, Prod.mk.injEq] at e
    obtain ⟨rfl, rfl⟩ := e
    cases vs with
    | nil =>
      have z : ev :: es = [] := q
      cases z
    | cons v vs =>
      obtain ⟨_, _, z, q1, q2⟩ := q
      cases z
      -- one argument
      have one : ∃ F1 fp1, Same F F1 ∧ Rl K cA F1 P pn fp1 (s1 ++ (acc ++ [some d])) (σ ++ (accv ++ [some v])) H ∧ s1.length = s.length := by
        have byV : ∀ {d : D} {s1 : Sl}, evV ev s = some (d, s1) → ∃ F1 fp1, Same F F1 ∧ Rl K cA F1 P pn fp1 (s1 ++ (acc ++ [some d])) (σ ++ (accv ++ [some v])) H ∧ s1.length = s.length := by
          intro d s1 e1
          have q1' : Ep K cA F (σ ++ accv) v ev := q1.app
          obtain ⟨F1, fp1, g1, r1, q3, ho⟩ := Ep.evV (W := ⟨fun _ _ _ _ => False, P, pn⟩) r q1' (evV_app e1)
          have r2 := Rl.push r1 (Vl.frozen ho q3) List.nodup_nil (fun j a z => nomatch z) (fun a z => nomatch z)
          rw [List.append_assoc, List.append_assoc] at r2
          exact ⟨F1, _, g1, r2, evV_len e1⟩
        cases p with
        | false => exact byV e1
        | true =>
          simp only [if_true] at e1
          cases ev with
          | val d' => exact byV e1
          | al i =>
            simp only [takeE] at e1
            split at e1
            · rename_i d' hd
              simp only [Option.some.injEq, Prod.mk.injEq] at e1
              obtain ⟨rfl, rfl⟩ := e1
              obtain ⟨u, hu, w⟩ := r.sl i d' (app_l hd)
              have hv : σ[i]? = some (some v) := q1
              rw [app_l hv] at hu
              cases hu
              have r1 := r.drop i
              have hi := (List.getElem?_eq_some_iff.mp hd).1
              rw [List.set_append_left _ _ hi] at r1
              have r2 := Rl.push r1 (l := fp i) w (r.nd i) (fun j a h1 h2 => ?_) (fun a ha => r.fr i a ha)
              · rw [List.append_assoc, List.append_assoc] at r2
                exact ⟨F, _, Same.refl F, r2, List.length_set⟩
              · by_cases hj : j = i
                · subst hj; rw [fset_same] at h2; cases h2
                · rw [fset_ne hj] at h2; exact hj (r.dj j i a h2 h1)
            · cases e1
      obtain ⟨F1, fp1, g1, r1, hl1⟩ := one
      obtain ⟨F2, fp2, g2, r2, h1, h2, h3⟩ := take_ok (pins := ps) r1 (hl1.trans hl) (q2.mono g1) e2
      refine ⟨F2, fp2, g1.trans g2, ?_, by rw [List.length_cons, List.length_cons, h1], h2.trans hl1, by rw [List.length_cons, List.length_cons, h3]⟩
      rw [List.append_assoc, List.append_assoc] at r2
      exact r2
  | [], _ :: _, _, _, _, _, _, _, _, _, _, _, _, e => by cases e
  | _ :: _, [], _, _, _, _, _, _, _, _, _, _, _, e => by cases e
/-- what the callee may not touch: the caller's own objects -/
def keepP (n : Nat) (fp : Nat → List Addr) (H P : Hp) : Hp := fun b => if (List.range n).any (fun i => (fp i).contains b) then H b else P b
theorem keepP_in {n : Nat} {i : Nat} {a : Addr} (hi : i < n) (ha : a ∈ fp i) : keepP n fp H P a = H a := by
  unfold keepP
  rw [if_pos]
  rw [List.any_eq_true]
  exact ⟨i, List.mem_range.mpr hi, by simpa using ha⟩
theorem keepP_out {n : Nat} {a : Addr} (h : ∀ i, i < n → a ∉ fp i) : keepP n fp H P a = P a := by
  unfold keepP
  rw [if_neg]
  intro z
  obtain ⟨i, hi, z⟩ := List.any_eq_true.mp z
  exact h i (List.mem_range.mp hi) (by simpa using z)
theorem keepP_cases (n : Nat) (a : Addr) : (∃ i, i < n ∧ a ∈ fp i ∧ keepP n fp H P a = H a) ∨ ((∀ i, i < n → a ∉ fp i) ∧ keepP n fp H P a = P a) := by
  by_cases h : ∃ i, i < n ∧ a ∈ fp i
  · obtain ⟨i, hi, ha⟩ := h
    exact .inl ⟨i, hi, ha, keepP_in hi ha⟩
  · have h' : ∀ i, i < n → a ∉ fp i := fun i hi ha => h ⟨i, hi, ha⟩
    exact .inr ⟨h', keepP_out h'⟩
theorem app_r {α : Type} {s t : List α} {j : Nat} : (s ++ t)[s.length + j]? = t[j]? := by
  rw [List.getElem?_append_right (Nat.le_add_right _ _), Nat.add_sub_cancel_left]
/-- the callee's view -/
theorem Rl.split (r : Rl K cA F P pn fp (s ++ acc) (σ ++ accv) H) (hl : s.length = σ.length) {pn' : Nat → Option V} (hp : ∀ i v, pn' i = some v → accv[i]? = some (some v)) : Rl K cA F (keepP s.length fp H P) pn' (fun j => fp (s.length + j)) acc accv H := by
  have hl2 : acc.length = accv.length := by
    have := r.len
    rw [List.length_append, List.length_append] at this
    omega
  refine ⟨hl2, r.fz, fun a o h => ?_, fun j d h => ?_, fun j h => ?_, fun j => r.nd _, fun j k a h1 h2 => ?_, fun j a h => ⟨(r.fr _ a h).1, ?_⟩, hp, fun a o h => ?_⟩
  · rcases keepP_cases (fp := fp) (H := H) (P := P) s.length a with ⟨i, hi, ha, e⟩ | ⟨_, e⟩
    · rw [e] at h; exact h
    · rw [e] at h; exact r.pr a o h
  · obtain ⟨v, h1, h2⟩ := r.sl (s.length + j) d (by rw [app_r]; exact h)
    rw [hl, app_r] at h1
    exact ⟨v, h1, h2⟩
  · exact r.nl _ fun d z => h d (by rw [app_r] at z; exact z)
  · have := r.dj _ _ a h1 h2
    omega
  · rw [keepP_out fun i hi z => by have := r.dj _ _ a h z; omega]
    exact (r.fr _ a h).2
  · rcases keepP_cases (fp := fp) (H := H) (P := P) s.length a with ⟨i, hi, ha, e⟩ | ⟨_, e⟩
    · exact (r.fr i a ha).1
    · rw [e] at h; exact r.fd a o h
/-- behind the call: both together again -/
theorem Rl.join {acc' : Sl} (r : Rl K cA F P pn fp (s ++ acc) (σ ++ accv) H) (hl : s.length = σ.length) (g : Same F F') {pn' : Nat → Option V} (r' : Rl K cA F' (keepP s.length fp H P) pn' fp' acc' accv H') :
    Rl K cA F' P pn (fun j => if j < s.length then fp j else fp' (j - s.length)) (s ++ acc') (σ ++ accv) H' := by
  have old : ∀ {j : Nat}, j < s.length → ∀ {x : Option D}, (s ++ acc')[j]? = some x → (s ++ acc)[j]? = some x := fun {j} hj {x} h => by
    rw [List.getElem?_append_left hj] at h ⊢
    exact h
  have same : ∀ {j : Nat}, j < s.length → ∀ a ∈ fp j, H' a = H a := fun {j} hj a ha => by
    obtain ⟨o, ho⟩ := r.there ha
    rw [ho]
    exact r'.pr a o (by rw [keepP_in hj ha]; exact ho)
  have Psame : Same P (keepP s.length fp H P) := fun a o h => by
    rcases keepP_cases (fp := fp) (H := H) (P := P) s.length a with ⟨i, hi, ha, e⟩ | ⟨_, e⟩
    · rw [(r.fr i a ha).2] at h; cases h
    · rw [e]; exact h
  have apart : ∀ {i j : Nat} {a : Addr}, i < s.length → a ∈ fp i → a ∈ fp' j → False := fun {i j a} hi ha hj => by
    have := (r'.fr j a hj).2
    rw [keepP_in hi ha] at this
    obtain ⟨o, ho⟩ := r.there ha
    rw [ho] at this; cases this
  refine ⟨by rw [List.length_append, List.length_append, hl, r'.len], r'.fz, Psame.trans r'.pr, fun j d h => ?_, fun j h => ?_, fun j => ?_, fun j k a h1 h2 => ?_, fun j a h => ?_, r.pn, fun a o h => r'.fd a o (Psame a o h)⟩
  · by_cases hj : j < s.length
    · obtain ⟨v, h1, h2⟩ := r.sl j d (old hj h)
      refine ⟨v, h1, ?_⟩
      rw [if_pos hj]
      exact Vl.keep g d v _ h2 (same hj)
    · have e : j = s.length + (j - s.length) := by omega
      rw [e, app_r] at h
      obtain ⟨v, h1, h2⟩ := r'.sl _ d h
      refine ⟨v, ?_, ?_⟩
      · rw [e, hl, app_r]
        rw [hl] at h1
        exact h1
      · rw [if_neg hj]; exact h2
  · by_cases hj : j < s.length
    · show (if j < s.length then fp j else _) = []
      rw [if_pos hj]
      exact r.nl j fun d z => h d (by rw [List.getElem?_append_left hj] at z ⊢; exact z)
    · show (if j < s.length then fp j else _) = []
      rw [if_neg hj]
      refine r'.nl _ fun d z => h d ?_
      have e : j = s.length + (j - s.length) := by omega
      rw [e, app_r]
      exact z
  · show (if j < s.length then fp j else _).Nodup
    by_cases hj : j < s.length
    · rw [if_pos hj]; exact r.nd j
    · rw [if_neg hj]; exact r'.nd _
  · have h1 : a ∈ (if j < s.length then fp j else fp' (j - s.length)) := h1
    have h2 : a ∈ (if k < s.length then fp k else fp' (k - s.length)) := h2
    by_cases hj : j < s.length
    · rw [if_pos hj] at h1
      by_cases hk : k < s.length
      · rw [if_pos hk] at h2; exact r.dj j k a h1 h2
      · rw [if_neg hk] at h2; exact (apart hj h1 h2).elim
    · rw [if_neg hj] at h1
      by_cases hk : k < s.length
      · rw [if_pos hk] at h2; exact (apart hk h2 h1).elim
      · rw [if_neg hk] at h2
        have := r'.dj _ _ a h1 h2
        omega
  · have h : a ∈ (if j < s.length then fp j else fp' (j - s.length)) := h
    by_cases hj : j < s.length
    · rw [if_pos hj] at h
      refine ⟨?_, (r.fr j a h).2⟩
      obtain ⟨o, ho⟩ := r.there h
      exact r'.fd a o (by rw [keepP_in hj h]; exact ho)
    · rw [if_neg hj] at h
      exact ⟨(r'.fr _ a h).1, Same.free Psame (r'.fr _ a h).2⟩
/-- a slot's container goes to another slot -/
theorem Rl.move (r : Rl K cA F P pn fp s σ H) {i j : Nat} {d : D} (hi : i < s.length) (hij : i ≠ j) (e : s[j]? = some (some d)) (hv : ∃ v, σ[i]? = some (some v) ∧ σ[j]? = some (some v)) : Rl K cA F P pn (fset (fset fp j []) i (fp j)) ((s.set j none).set i (some d)) σ H := by
  obtain ⟨v, h1, h2⟩ := hv
  obtain ⟨u, h3, q⟩ := r.sl j d e
  rw [h2] at h3
  cases h3
  have r1 := (r.drop j).put (i := i) (d := d) (v := v) (l := fp j) (by rw [List.length_set]; exact hi) q (r.nd j) (fun k a ha hk => ?_) (fun a ha => r.fr j a ha) (fun u hu => by have := r.pn i u hu; rw [h1] at this; cases this; rfl)
  · have e2 : σ.set i (some v) = σ := by
      apply List.ext_getElem?
      intro k
      by_cases hk : k = i
      · subst hk
        rw [List.getElem?_set_self (List.getElem?_eq_some_iff.mp h1).1, h1]
      · rw [List.getElem?_set_ne (Ne.symm hk)]
    rw [e2] at r1
    exact r1
  · by_cases hkj : k = j
    · subst hkj; rw [fset_same] at hk; cases hk
    · rw [fset_ne hkj] at hk
      exact (hkj (r.dj k j a hk ha)).elim
/-- fewer slots at the end -/
theorem Rl.cut (r : Rl K cA F P pn fp (s ++ acc) (σ ++ accv) H) (hl : s.length = σ.length) (hp : ∀ i v, pn i = some v → i < s.length) : Rl K cA F P pn (fun j => if j < s.length then fp j else []) s σ H := by
  have mem : ∀ {j : Nat} {a : Addr}, a ∈ (if j < s.length then fp j else []) → j < s.length ∧ a ∈ fp j := fun {j a} h => by
    by_cases hj : j < s.length
    · rw [if_pos hj] at h; exact ⟨hj, h⟩
    · rw [if_neg hj] at h; cases h
  refine ⟨hl, r.fz, r.pr, fun j d h => ?_, fun j h => ?_, fun j => ?_, fun j k a h1 h2 => r.dj j k a (mem h1).2 (mem h2).2, fun j a h => r.fr j a (mem h).2, fun j v h => ?_, r.fd⟩
  · have hj := (List.getElem?_eq_some_iff.mp h).1
    obtain ⟨v, h1, h2⟩ := r.sl j d (app_l h)
    rw [List.getElem?_append_left (by omega)] at h1
    exact ⟨v, h1, by rw [if_pos hj]; exact h2⟩
  · show (if j < s.length then fp j else []) = []
    by_cases hj : j < s.length
    · rw [if_pos hj]
      exact r.nl j fun d z => h d (by rw [List.getElem?_append_left hj] at z; exact z)
    · rw [if_neg hj]
  · show (if j < s.length then fp j else []).Nodup
    by_cases hj : j < s.length
    · rw [if_pos hj]; exact r.nd j
    · rw [if_neg hj]; exact List.nodup_nil
  · have := r.pn j v h
    rw [List.getElem?_append_left (by have := hp j v h; omega)] at this
    exact this
end
end NS
namespace NS
open PySem PySem.Spec PyProof.Rows L2
section
variable {K : PySem.W.Frag} {cA : Nat → Addr} {F F' P P' H H' : Hp} {pn : Nat → Option V} {fp fp' : Nat → List Addr} {s s' acc : Sl} {σ σ' accv : L2.St}
theorem fset_mem {fp : Nat → List Addr} {i j : Nat} {l : List Addr} {a : Addr} (h : a ∈ fset fp i l j) : a ∈ l ∨ a ∈ fp j := by
  by_cases hj : j = i
  · subst hj; rw [fset_same] at h; exact .inl h
  · rw [fset_ne hj] at h; exact .inr h
theorem set_mid {α : Type} {s t r : List α} {x y : α} : (s ++ (t ++ (x :: r))).set (s.length + t.length) y = s ++ (t ++ (y :: r)) := by
  rw [List.set_append_right _ _ (Nat.le_add_right _ _), Nat.add_sub_cancel_left, List.set_append_right _ _ (Nat.le_refl _), Nat.sub_self]
  rfl
theorem get_mid {α : Type} {s t r : List α} {x : α} : (s ++ (t ++ (x :: r)))[s.length + t.length]? = some x := by
  rw [app_r, List.getElem?_append_right (Nat.le_refl _), Nat.sub_self]
  rfl
/-- the parameters' last values go back -/
theorem give_ok {F0 : Hp} : ∀ {pins : List Bool} {es : List EV} {ds : Sl} {vs : List V} {s acc : Sl} {accv : L2.St} {fp : Nat → List Addr}, Rl K cA F P pn fp (s ++ (acc ++ ds)) (σ ++ (accv ++ vs.map some)) H → s.length = σ.length → acc.length = accv.length → Eps K cA F0 σ vs es → ds.length = pins.length → vs.length = pins.length →
    (∀ i v, pn i = some v → i < s.length) → ∃ fp', Rl K cA F P pn fp' (giveA pins es ds s) σ H ∧ ∀ j a, a ∈ fp' j → ∃ k, a ∈ fp k := by
  intro pins
  induction pins with
  | nil =>
    intro es ds vs s acc accv fp r hl hl2 q h1 h2 hp
    have e1 : ds = [] := List.eq_nil_of_length_eq_zero h1
    have e2 : vs = [] := List.eq_nil_of_length_eq_zero h2
    subst e1 e2
    refine ⟨fun j => if j < s.length then fp j else [], ?_, fun j a h => ?_⟩
    · have : giveA [] es [] s = s := by cases es <;> rfl
      rw [this]
      exact Rl.cut r hl hp
    · have h : a ∈ (if j < s.length then fp j else []) := h
      by_cases hj : j < s.length
      · rw [if_pos hj] at h; exact ⟨j, h⟩
      · rw [if_neg hj] at h; cases h
  | cons p ps ih =>
    intro es ds vs s acc accv fp r hl hl2 q h1 h2 hp
    cases ds with
    | nil => cases h1
    | cons x ds =>
      cases vs with
      | nil => cases h2
      | cons v vs =>
        obtain ⟨ev, es', rfl, q1, q2⟩ := q
        have k1 : ds.length = ps.length := by simpa using h1
        have k2 : vs.length = ps.length := by simpa using h2
        have re : ∀ {s' : Sl} {y : Option D} {fp' : Nat → List Addr}, s'.length = s.length → Rl K cA F P pn fp' (s' ++ (acc ++ (y :: ds))) (σ ++ (accv ++ (v :: vs).map some)) H → (∀ j a, a ∈ fp' j → ∃ k, a ∈ fp k) →
            ∃ fp'', Rl K cA F P pn fp'' (giveA ps es' ds s') σ H ∧ ∀ j a, a ∈ fp'' j → ∃ k, a ∈ fp k := by
          intro s' y fp' hs r' hm
          have r2 : Rl K cA F P pn fp' (s' ++ ((acc ++ [y]) ++ ds)) (σ ++ ((accv ++ [some v]) ++ vs.map some)) H := by
            rw [List.append_assoc, List.append_assoc]
            exact r'
          obtain ⟨fp'', r3, hm2⟩ := ih (es := es') r2 (hs.trans hl) (by rw [List.length_append, List.length_append, hl2]; rfl) q2 k1 k2 (fun i u h => by rw [hs]; exact hp i u h)
          exact ⟨fp'', r3, fun j a h => let ⟨k, hk⟩ := hm2 j a h; hm k a hk⟩
        cases ev with
        | val d => exact re rfl r fun j a h => ⟨j, h⟩
        | al i =>
          cases p with
          | false => exact re rfl r fun j a h => ⟨j, h⟩
          | true =>
            have hv : σ[i]? = some (some v) := q1
            have hi : i < s.length := by rw [hl]; exact (List.getElem?_eq_some_iff.mp hv).1
            show ∃ fp'', Rl K cA F P pn fp'' (giveA ps es' ds (s.set i x)) σ H ∧ _
            cases x with
            | none =>
              have r1 := r.drop i
              rw [List.set_append_left _ _ hi] at r1
              exact re List.length_set r1 fun j a h => (fset_mem h).elim (fun z => nomatch z) fun z => ⟨j, z⟩
            | some d =>
              have r1 := r.move (i := i) (j := s.length + acc.length) (d := d) (by rw [List.length_append]; omega) (by omega) get_mid ⟨v, app_l hv, by rw [hl, hl2]; exact get_mid⟩
              rw [set_mid, List.set_append_left _ _ hi] at r1
              exact re List.length_set r1 fun j a h => (fset_mem h).elim (fun z => ⟨_, z⟩) fun z => (fset_mem z).elim (fun z => nomatch z) fun z => ⟨j, z⟩
theorem pnOf_some {pins : List Bool} {vs : List V} {i : Nat} {v : V} (h : pnOf pins vs i = some v) : pins[i]? = some true ∧ vs[i]? = some v := by
  unfold pnOf at h
  split at h
  · rename_i hc
    exact ⟨hc, h⟩
  · cases h
end
section
variable {X : Cx} {cA : Nat → Addr} {W : Gx} {e a b c : Expr} {es : List Expr} {f g h : Sl → R EV} {pos : Pos}
/-- a call keeps what cal says -/
theorem call_ok {F H : Hp} {fp : Nat → List Addr} {s : Sl} {σ : L2.St} {vs : List V} {es : List EV} {cal : List D → CR} {pins : List Bool} {Q : VK} (r : Rl X.K cA F W.P W.pn fp s σ H) (q : Eps X.K cA F σ vs es) (p : Po X.K cA W F σ (callK cal pins es s) (KE X.K cA W F σ Q)) :
    spF X.K cA cal pins vs H Q fun cls dx H' => W.w cls dx σ H' := by
  unfold callK at p
  split at p
  · exact p.elim
  · rename_i ds s2 ht
    have r0 : Rl X.K cA F W.P W.pn fp (s ++ []) (σ ++ []) H := by rw [List.append_nil, List.append_nil]; exact r
    obtain ⟨F1, fp1, g1, r1, h1, h2, h3⟩ := take_ok r0 r.len q ht
    rw [List.nil_append, List.nil_append] at r1
    have hl : s2.length = σ.length := h2.trans r.len
    have hp : ∀ i v, W.pn i = some v → i < s2.length := fun i v h => by
      have := r.pn i v h
      rw [hl]
      exact (List.getElem?_eq_some_iff.mp this).1
    refine ⟨F1, _, _, ds, r1.split hl (pn' := pnOf pins vs) (fun j v h => ?_), h1, ?_⟩
    · rw [List.getElem?_map, (pnOf_some h).2]
      rfl
    -- behind it
    have fin : ∀ {F' : Hp} {fp' : Nat → List Addr} {H' : Hp} {ds' : Sl}, Same F1 F' → Rl X.K cA F' (keepP s2.length fp1 H W.P) (pnOf pins vs) fp' ds' (vs.map some) H' → ds'.length = pins.length →
        ∃ fp2, Rl X.K cA F' W.P W.pn fp2 (giveA pins es ds' s2) σ H' ∧ ∀ j a, a ∈ fp2 j → (∃ i, i < s2.length ∧ a ∈ fp1 i) ∨ ∃ k, a ∈ fp' k := by
      intro F' fp' H' ds' g' r' hl'
      have rj := r1.join hl g' r'
      obtain ⟨fp2, r2, hm⟩ := give_ok (acc := []) (accv := []) (F0 := F) (by rw [List.nil_append, List.nil_append]; exact rj) hl rfl q hl' h3 hp
      refine ⟨fp2, r2, fun j a h => ?_⟩
      obtain ⟨k, hk⟩ := hm j a h
      by_cases hlt : k < s2.length
      · rw [if_pos hlt] at hk; exact .inl ⟨k, hlt, hk⟩
      · rw [if_neg hlt] at hk; exact .inr ⟨_, hk⟩
    split at p
    · rename_i d ds' hc
      split at p
      · rename_i hb
        have hlen := Nat.eq_of_beq_eq_true hb
        rw [hc]
        refine ⟨hlen, fun v H' F' fp' g' r' q' => ?_⟩
        obtain ⟨fp2, r2, hm⟩ := fin g' r' hlen
        refine p v H' F' fp2 (g1.trans g') r2 ?_
        obtain ⟨l, w, nd, dj, fr⟩ := q'
        have Psame : ∀ a, (keepP s2.length fp1 H W.P) a = none → W.P a = none ∧ ∀ i, i < s2.length → a ∉ fp1 i := fun a h => by
          rcases keepP_cases (fp := fp1) (H := H) (P := W.P) s2.length a with ⟨i, hi, ha, e⟩ | ⟨hn, e⟩
          · obtain ⟨o, ho⟩ := r1.there ha
            rw [e, ho] at h; cases h
          · rw [e] at h; exact ⟨h, hn⟩
        refine ⟨l, w, nd, fun j a h1 h2 => ?_, fun a ha => ⟨(fr a ha).1, (Psame a (fr a ha).2).1⟩⟩
        rcases hm j a h2 with ⟨i, hi, hk⟩ | ⟨k, hk⟩
        · exact (Psame a (fr a h1).2).2 i hi hk
        · exact dj k a h1 hk
      · exact p.elim
    · rename_i x ds' hc
      split at p
      · rename_i hb
        have hlen := Nat.eq_of_beq_eq_true hb
        rw [hc]
        refine ⟨hlen, fun cls dx H' F' fp' g' r' q' => ?_⟩
        obtain ⟨fp2, r2, hm⟩ := fin g' r' hlen
        exact p cls dx H' F' fp2 (g1.trans g') r2 q'
      · exact p.elim
    · exact p.elim
theorem takes0N {X : Cx} : L2N.Takes X (fun _ _ _ _ => False) := fun _ _ ⟨_, _, _, _, _, _, _, _, _, _, _, _, _, _, _, _, w⟩ => w.elim
/-- what a call lets out is taken -/
abbrev PaC (X : Cx) (W : Gx) : Prop := ∀ σ, PassesAt (L2N.CX X.prog X.w) X σ (fun cls dx H' => W.w cls dx σ H')
theorem paC {X : Cx} {W : Gx} (tk : L2N.Takes X W.w) : PaC X W := fun σ => L2N.passAt tk σ
/-- f(e, ..), f an own function -/
theorem se_call {k : Nat} {fa : Addr} {fd : FuncData} {ps : List Str} {cal : List D → CR} {pins : List Bool} {x : Str} {p : Pos} {fs : List (Sl → R EV)} (Fk : FnOk X.prog X.w X.K X.mg X.base (L2N.CX X.prog X.w) k fa fd ps (spF X.K cA cal pins)) (hr : Room k X.A) (hg : Gl X x) (hm : X.mg x = some (.ref fa))
    (hk : PySem.W.keepIn X.K (.ref fa) = true) (hb : Binds X.K fd ps []) (tk : PaC X W) (ha : SA X cA W (e :: es) (argsE fs)) (hdb : (x == ("__debug__" : Str)) = false) (hs : (e :: es).all noStar = true) : SE X cA W (.Call (.Name x p) (e :: es) [] pos) (callE cal pins fs) := by
  rw [List.all_cons, Bool.and_eq_true] at hs
  refine PE_mono (pe_callSD (E := fun σ cls dx H' => W.w cls dx σ H') Fk hr hg hm hk hb .nil tk ha hdb (starEach_cons hs.1) (back_plain hs.2)) fun σ H Q h => ?_
  obtain ⟨F, fp, s, r, p⟩ := h
  refine ⟨F, fp, s, r, Po.bind p fun es1 s1 _ p1 vs H1 F1 fp1 g1 r1 q1 => ?_⟩
  show spF X.K cA cal pins (vs ++ []) H1 Q fun cls dx H' => W.w cls dx σ H'
  rw [List.append_nil]
  exact call_ok r1 q1 (Po.up g1 p1 fun _ _ _ z => KE_mono _ _ _ _ g1 z)

theorem se_call0 {k : Nat} {fa : Addr} {fd : FuncData} {ps : List Str} {cal : List D → CR} {pins : List Bool} {x : Str} {p : Pos} (Fk : FnOk X.prog X.w X.K X.mg X.base (L2N.CX X.prog X.w) k fa fd ps (spF X.K cA cal pins)) (hr : Room k X.A) (hg : Gl X x) (hm : X.mg x = some (.ref fa))
    (hk : PySem.W.keepIn X.K (.ref fa) = true) (hb : Binds X.K fd ps []) (tk : PaC X W) (hdb : (x == ("__debug__" : Str)) = false) : SE X cA W (.Call (.Name x p) [] [] pos) (callE cal pins []) := by
  have key : PE X (.Call (.Name x p) [] [] pos) (tCallSD (spF X.K cA cal pins) [] (fun σ cls dx H' => W.w cls dx σ H') tNil) := by
    refine ⟨fun pins s σ H Q I h => ?_⟩
    refine wpAny_Call_Name_kw (ld_glob I hg hm ?_ hdb)
    exact PySem.W.callWith_K0 I.kIn hk (run_fnSD (E := fun σ cls dx H' => W.w cls dx σ H') (us := []) Fk hr hb .nil (tk σ) I .nil h)
  refine PE_mono key fun σ H Q h => ?_
  obtain ⟨F, fp, s, r, p⟩ := h
  show spF X.K cA cal pins [] H Q fun cls dx H' => W.w cls dx σ H'
  have p : Po X.K cA W F σ ((R.ok [] s : R (List EV)).bind (callK cal pins)) (KE X.K cA W F σ Q) := p
  exact call_ok r rfl p

/-! ### a def's body -/
def maskP : List Bool → Sl → Sl
  | p :: ps, x :: xs => (if p then x else none) :: maskP ps xs
  | _ :: ps, [] => none :: maskP ps []
  | [], _ => []
theorem maskP_length : ∀ (ps : List Bool) (s : Sl), (maskP ps s).length = ps.length
  | [], _ => by cases ‹Sl› <;> rfl
  | p :: ps, [] => by rw [maskP, List.length_cons, List.length_cons, maskP_length ps []]
  | p :: ps, x :: xs => by rw [maskP, List.length_cons, List.length_cons, maskP_length ps xs]
theorem maskP_some : ∀ {ps : List Bool} {s : Sl} {i : Nat} {d : D}, (maskP ps s)[i]? = some (some d) → ps[i]? = some true ∧ s[i]? = some (some d)
  | [], s, i, d, h => by cases s <;> simp [maskP] at h
  | p :: ps, [], 0, d, h => by simp [maskP] at h
  | p :: ps, [], i + 1, d, h => by
    have := maskP_some (ps := ps) (s := []) (i := i) (d := d) (by simpa [maskP] using h)
    simp at this
  | p :: ps, x :: xs, 0, d, h => by
    cases p with
    | true => simp [maskP] at h; subst h; exact ⟨rfl, rfl⟩
    | false => simp [maskP] at h
  | p :: ps, x :: xs, i + 1, d, h => by
    have := maskP_some (ps := ps) (s := xs) (i := i) (d := d) (by simpa [maskP] using h)
    simpa using this
def begS (n : Nat) (ds : List D) : Sl := ds.map some ++ List.replicate (n - ds.length) none
/-- what a def's body comes to -/
def calOf (f : Sl → Fl) (n : Nat) (pins : List Bool) (ds : List D) : CR := match f (begS n ds) with
  | .rt d s => .ok d (maskP pins s)
  | .nx s => .ok .non (maskP pins s)
  | .ex x s => .ex x (maskP pins s)
  | _ => .no
theorem Rl.ext {K : PySem.W.Frag} {F P H : Hp} {pn : Nat → Option V} {fp : Nat → List Addr} {s : Sl} {σ : L2.St} (r : Rl K cA F P pn fp s σ H) (n : Nat) : Rl K cA F P pn fp (s ++ List.replicate n none) (σ ++ List.replicate n none) H := by
  have out : ∀ {j : Nat}, ¬ j < s.length → ∀ d, (s ++ List.replicate n (none : Option D))[j]? ≠ some (some d) := fun {j} hj d h => by
    rw [List.getElem?_append_right (by omega), List.getElem?_replicate] at h
    split at h <;> cases h
  refine ⟨by rw [List.length_append, List.length_append, r.len, List.length_replicate, List.length_replicate], r.fz, r.pr, fun j d h => ?_, fun j h => ?_, r.nd, r.dj, r.fr, fun j v h => app_l (r.pn j v h), r.fd⟩
  · by_cases hj : j < s.length
    · rw [List.getElem?_append_left hj] at h
      obtain ⟨v, h1, h2⟩ := r.sl j d h
      exact ⟨v, app_l h1, h2⟩
    · exact (out hj d h).elim
  · by_cases hj : j < s.length
    · exact r.nl j fun d z => h d (app_l z)
    · refine r.nl j fun d z => ?_
      exact hj (List.getElem?_eq_some_iff.mp z).1
/-- the parameters' last values -/
theorem Rl.mask {K : PySem.W.Frag} {F P H : Hp} {pins : List Bool} {vs : List V} {fp : Nat → List Addr} {s : Sl} {σ : L2.St} (r : Rl K cA F P (pnOf pins vs) fp s σ H) (hl : vs.length = pins.length) :
    ∃ fp', Rl K cA F P (pnOf pins vs) fp' (maskP pins s) (vs.map some) H ∧ ∀ j a, a ∈ fp' j → a ∈ fp j := by
  have mem : ∀ {j : Nat} {a : Addr}, a ∈ (if ((maskP pins s)[j]?.getD none).isSome then fp j else []) → (∃ d, (maskP pins s)[j]? = some (some d)) ∧ a ∈ fp j := fun {j a} h => by
    split at h
    · rename_i hc
      refine ⟨?_, h⟩
      cases e : (maskP pins s)[j]? with
      | none => rw [e] at hc; cases hc
      | some x =>
        cases x with
        | none => rw [e] at hc; cases hc
        | some d => exact ⟨d, rfl⟩
    · cases h
  refine ⟨fun j => if ((maskP pins s)[j]?.getD none).isSome then fp j else [], ⟨by rw [maskP_length, List.length_map, hl], r.fz, r.pr, fun j d h => ?_, fun j h => ?_, fun j => ?_, fun j k a h1 h2 => r.dj j k a (mem h1).2 (mem h2).2, fun j a h => r.fr j a (mem h).2, fun j v h => ?_, r.fd⟩, fun j a h => (mem h).2⟩
  · obtain ⟨h1, h2⟩ := maskP_some h
    obtain ⟨v, h3, h4⟩ := r.sl j d h2
    have hj : j < vs.length := by rw [hl]; exact (List.getElem?_eq_some_iff.mp h1).1
    have e : pnOf pins vs j = some vs[j] := by unfold pnOf; rw [if_pos h1]; exact List.getElem?_eq_getElem hj
    have e2 := r.pn j _ e
    rw [h3] at e2
    cases e2
    refine ⟨vs[j], by rw [List.getElem?_map, List.getElem?_eq_getElem hj]; rfl, ?_⟩
    rw [if_pos (by rw [h]; rfl)]
    exact h4
  · show (if ((maskP pins s)[j]?.getD none).isSome then fp j else []) = []
    rw [if_neg]
    intro hc
    cases e : (maskP pins s)[j]? with
    | none => rw [e] at hc; cases hc
    | some x =>
      cases x with
      | none => rw [e] at hc; cases hc
      | some d => exact h d e
  · show (if ((maskP pins s)[j]?.getD none).isSome then fp j else []).Nodup
    split
    · exact r.nd j
    · exact List.nodup_nil
  · rw [List.getElem?_map, (pnOf_some h).2]
    rfl
/-- THE RULE of a def: its body's meaning -/
theorem fn_ok {P : Program} {w : World} {K : PySem.W.Frag} {mg : Str → Option Value} {base : Heap} {k : Nat} {fa : Addr} {name qual : Str} {params : Arguments} {body : List Stmt} {scope : Scope} {dV kV doc pm cdv ct oc : Value} {an od : Option Addr}
    {osl : Array (Option Value)} {N ps : List Str} {cA : Nat → Addr} {f : Sl → Fl} {pins : List Bool} (lk : K.lookup fa = some ⟨oc, od, .func (PySem.W.fnOf name qual params body scope dV kV doc pm an cdv ct), osl⟩) (hcd : PySem.W.codeIn K cdv qual = true) (S : FnScope N ps scope) (hps : ps.length = pins.length)
    (hbody : ∀ (A : Around) (outer : List Env) (s : Shared) (H : Hp) (E : XK) (W : Gx), Room k (A.deeper (envOfC qual scope s.heap.objs.size fa cdv)) → L2N.Takes (cxOf (L2N.CX P w) P w K mg base N qual scope fa cdv A outer s H E) W.w → (∀ i, pins[i]? ≠ some true → W.pn i = none) →
      SSs (cxOf (L2N.CX P w) P w K mg base N qual scope fa cdv A outer s H E) cA W body f) :
    FnOk P w K mg base (L2N.CX P w) (k + 1) fa (PySem.W.fnOf name qual params body scope dV kV doc pm an cdv ct) ps (spF K cA (calOf f N.length pins) pins) := by
  refine fn_of lk hcd S (fun vs H Q E h => ?_) fun A outer s H vs Q E hr h => ?_
  · obtain ⟨F, P, fp, ds, r, hl, _⟩ := h
    have := r.len
    rw [List.length_map, List.length_map] at this
    omega
  · obtain ⟨F, P1, fp, ds, r, hl, p⟩ := h
    have hlv : vs.length = pins.length := by
      have := r.len
      rw [List.length_map, List.length_map] at this
      omega
    have hds : ds.length = vs.length := by omega
    refine ⟨_, hbody A outer s H E ⟨fun cls dx _ H' => E cls dx H', P1, pnOf pins vs⟩ hr (L2N.takes_of rfl rfl rfl rfl) (fun i hi => ?_), F, fp, begS N.length ds, ?_, ?_⟩
    · show pnOf pins vs i = none
      unfold pnOf
      rw [if_neg hi]
    · have z := Rl.ext r (N.length - ds.length)
      have e : L2.start N vs = vs.map some ++ List.replicate (N.length - ds.length) none := by unfold L2.start; rw [hds]
      rw [e]
      exact z
    · unfold calOf at p
      cases hf : f (begS N.length ds) with
      | rt d s1 =>
        rw [hf] at p
        obtain ⟨_, p⟩ := p
        intro v σ' H' F' fp' g' r' q'
        obtain ⟨fp2, r2, hm⟩ := Rl.mask r' hlv
        obtain ⟨l, w1, nd, dj, fr⟩ := q'
        exact p v H' F' fp2 g' r2 ⟨l, w1, nd, fun j a h1 h2 => dj j a h1 (hm j a h2), fr⟩
      | nx s1 =>
        rw [hf] at p
        obtain ⟨_, p⟩ := p
        intro σ' H' F' fp' g' r'
        obtain ⟨fp2, r2, hm⟩ := Rl.mask r' hlv
        exact p .non H' F' fp2 g' r2 (Ev.fro (W := ⟨fun _ _ _ _ => False, P1, pnOf pins vs⟩) rfl rfl)
      | ex x s1 =>
        rw [hf] at p
        obtain ⟨_, p⟩ := p
        intro cls dx σ' H' F' fp' g' r' q'
        obtain ⟨fp2, r2, hm⟩ := Rl.mask r' hlv
        exact p cls dx H' F' fp2 g' r2 q'
      | bk s1 => rw [hf] at p; exact p.elim
      | ct s1 => rw [hf] at p; exact p.elim
      | no => rw [hf] at p; exact p.elim
end
end NS
namespace NS
open PySem PySem.Spec PyProof.Rows L2

/-! ## 12. own lists changed -/
def stoS (i : Nat) (fi fe : Sl → R EV) : Sl → Fl := fun s => penE fe (fun ev s1 => match s1[i]? with
  | some (some (.lst true _)) => penE fi (fun ei s2 => match evV ev s2 with
    | some (d, s3) => match evR ei s3, s3[i]? with
      | some (.int k), some (some (.lst true xs)) => match ixN xs.length k with
        | some j => .ok () (s3.set i (some (.lst true (xs.set j d))))
        | none => .no
      | _, _ => .no
    | none => .no) s1
  | _ => .no) s |>.to fun _ s1 => .nx s1
def appE (i : Nat) (f : Sl → R EV) : Sl → R EV := fun s => match s[i]? with
  | some (some (.lst true _)) => penE f (fun ev s1 => match evV ev s1 with
    | some (d, s2) => match s2[i]? with
      | some (some (.lst true xs)) => if fits (xs.length + 1) then .ok (.val .non) (s2.set i (some (.lst true (xs ++ [d])))) else .no
      | _ => .no
    | none => .no) s
  | _ => .no
def D.items : D → Option (List D)
  | .lst _ xs => some xs
  | .tup xs => some xs
  | _ => none
def extE (i : Nat) (f : Sl → R EV) : Sl → R EV := fun s => match s[i]? with
  | some (some (.lst true _)) => penE f (fun ev s1 => match (evR ev s1).bind D.items with
    | some ys => match s1[i]? with
      | some (some (.lst true xs)) => if fits (xs.length + ys.length) then .ok (.val .non) (s1.set i (some (.lst true (xs ++ ys)))) else .no
      | _ => .no
    | none => .no) s
  | _ => .no
def popE (i : Nat) : Sl → R EV := fun s => match s[i]? with
  | some (some (.lst true xs)) => match xs[xs.length - 1]? with
    | some d => if d.own then .no else .ok (.val d) (s.set i (some (.lst true xs.dropLast)))
    | none => .no
  | _ => .no

/-- *e: its items -/
def D.its : D → Option (List D)
  | .lst _ xs => some xs
  | .tup xs => some xs
  | _ => none
def starK (k : Sl → R (List EV)) (ev : EV) (s : Sl) : R (List EV) := match (evR ev s).bind D.its with
  | some ds => if plainL ds then (k s).bind fun es s2 => .ok (ds.map EV.val ++ es) s2 else .no
  | none => .no
def argsX : List (Bool × (Sl → R EV)) → Sl → R (List EV)
  | [], s => .ok [] s
  | (false, f) :: fs, s => penE f (fun e s1 => (argsX fs s1).bind fun es s2 => .ok (e :: es) s2) s
  | (true, f) :: fs, s => penE f (starK (argsX fs)) s
def valsX (fs : List (Bool × (Sl → R EV))) : Sl → R (List D) := fun s => (argsX fs s).bind fun es s1 => match evVs es s1 with
  | some (ds, s2) => .ok ds s2
  | none => .no

section
variable {X : Cx} {cA : Nat → Addr} {W : Gx} {e a b c : Expr} {es : List Expr} {f g h : Sl → R EV} {pos : Pos}
/-- a slot's own list in the heap -/
theorem own_list {F H : Hp} {fp : Nat → List Addr} {s : Sl} {σ : L2.St} {i : Nat} {xs : List D} {v : V} (r : Rl X.K cA F W.P W.pn fp s σ H) (e : s[i]? = some (some (.lst true xs))) (hv : σ[i]? = some (some v)) : ∃ p vs, v = .ref p ∧ H p = some (.lst vs) ∧ RepFs X.K cA F xs vs ∧ fp i = [p] := by
  obtain ⟨u, h1, q⟩ := r.sl i _ e
  rw [hv] at h1
  cases h1
  obtain ⟨p, vs, rfl, h2, h3, h4⟩ := q
  exact ⟨p, vs, rfl, h2, h3, h4⟩
theorem own_set {F H : Hp} {fp : Nat → List Addr} {s : Sl} {σ : L2.St} {i : Nat} {xs ys : List D} {p : Addr} {us : List V} (r : Rl X.K cA F W.P W.pn fp s σ H) (e : s[i]? = some (some (.lst true xs))) (hv : σ[i]? = some (some (.ref p))) (hf : fp i = [p]) (n : RepFs X.K cA F ys us) :
    Rl X.K cA F W.P W.pn fp (s.set i (some (.lst true ys))) σ (upd H p (.lst us)) :=
  r.write e hv (by rw [hf]; simp) ⟨p, us, rfl, upd_same, n, hf⟩
theorem name_al {F H : Hp} {fp : Nat → List Addr} {s : Sl} {σ : L2.St} {i : Nat} {d : D} {Q : VK} (r : Rl X.K cA F W.P W.pn fp s σ H) (e : s[i]? = some (some d)) (ho : d.own = true) (hQ : ∀ v H' F' fp', Same F F' → Rl X.K cA F' W.P W.pn fp' s σ H' → σ[i]? = some (some v) → Q v H') : tE X.K cA W (nameE i) σ H Q := by
  refine ⟨F, fp, s, r, ?_⟩
  unfold nameE
  rw [e]
  simp only [ho, if_true]
  exact fun v H' F' fp' g r' q => hQ v H' F' fp' g r' q.2
theorem ss_sto {i : Nat} {x : Str} {p1 p2 : Pos} (hx : SE X cA W (.Name x p1) (nameE i)) (hi : SE X cA W b g) (he : SE X cA W e f) (hn : notComp e = true)
    (ha : ∀ v, assign (.Subscript (.Name x p1) b p2) X.env v = (do
      let ov ← holding [v] (eval (.Name x p1) X.env)
      let iv ← holding [v, ov] (eval b X.env)
      standAt p2
      holding [v, ov, iv] (setItem ov iv v)
      release [v, ov, iv] []) := by intro _; rfl) : SS X cA W (.Assign [.Subscript (.Name x p1) b p2] e pos) (stoS i g f) := by
  refine PS_mono (ps_asg he (pg_sub hx hi set_list ha) (show swapsWith e (some (.Subscript (.Name x p1) b p2)) pos.line X.env = pure false from swaps_no hn) rfl rfl) fun D σ H h => ?_
  obtain ⟨F, fp, s, r, p⟩ := h
  refine ⟨F, fp, s, r, ?_⟩
  have p' : PoS X.K cA W F D ((f s).to fun e s1 => (match s1[i]? with
      | some (some (.lst true _)) => penE g (fun ei s2 => match evV e.pend s2 with
        | some (d, s3) => match evR ei s3, s3[i]? with
          | some (.int k), some (some (.lst true xs)) => match ixN xs.length k with
            | some j => R.ok () (s3.set i (some (.lst true (xs.set j d))))
            | none => .no
          | _, _ => .no
        | none => .no) s1
      | _ => .no).to fun _ s1 => .nx s1) := by
    have z : stoS i g f s = ((f s).to fun e s1 => (match s1[i]? with
      | some (some (.lst true _)) => penE g (fun ei s2 => match evV e.pend s2 with
        | some (d, s3) => match evR ei s3, s3[i]? with
          | some (.int k), some (some (.lst true xs)) => match ixN xs.length k with
            | some j => R.ok () (s3.set i (some (.lst true (xs.set j d))))
            | none => .no
          | _, _ => .no
        | none => .no) s1
      | _ => .no).to fun _ s1 => .nx s1) := by
      unfold stoS penE
      cases f s <;> rfl
    rw [← z]
    exact p
  refine PoS.to p' fun ev s1 _ p1 v H1 F1 fp1 g1 r1 q1 => ?_
  obtain ⟨F2, g2, r2, q2⟩ := q1.pend r1
  have g12 := g1.trans g2
  split at p1
  · rename_i xs hxs
    refine name_al r2 hxs rfl fun o H3 F3 fp3 g3 r3 ho => ?_
    have p2 := PoS.to (C := fun (_ : Unit) s' => PoS X.K cA W F D (.nx s')) (σ := σ) p1 (fun _ _ _ z => z)
    have z := pen_run (C := fun F (_ : Unit) s' => PoS X.K cA W F D (.nx s')) (W := W) (fun F F' b s g h => PoS.up g h) r3 (Po.up (g12.trans g3) p2 fun _ _ _ z => PoS.up (g12.trans g3) z)
    obtain ⟨F0, fp0, s0, r0, p0⟩ := z
    refine ⟨F0, fp0, s0, r0, Po.up (Same.refl _) p0 fun ev' s' _ z y H4 F' fp' g' r' q' => ?_⟩
    obtain ⟨F5, fp5, s5, e5, r5, q5, g5, p5⟩ := z y H4 F' fp' g' r' q'
    split at p5
    · rename_i d s6 hd
      obtain ⟨F6, fp6, g6, r6, q6, _⟩ := Ep.evV r5 ((q2.mono g3).mono g5) hd
      split at p5
      · rename_i k ys hk hys
        split at p5
        · rename_i j hj
          obtain ⟨pa, vs, rfl, m, n, hf⟩ := own_list r6 hys ho
          have hl := n.length
          refine ⟨pa, vs, k, j, rfl, int_of r6 (q5.mono g6) hk, m, by rw [← hl]; exact hj, ?_⟩
          have p6 : PoS X.K cA W F5 D (.nx (s6.set i (some (.lst true (ys.set j d))))) := p5
          exact p6 σ _ F6 fp6 g6 (own_set r6 hys ho hf (n.set j q6))
        · exact p5.elim
      · exact p5.elim
    · exact p5.elim
  · exact p1.elim
/-- a method of a slot's own list -/
theorem se_app {i : Nat} {x : Str} {p1 apos cpos : Pos} (hx : SE X cA W (.Name x p1) (nameE i)) (ha : SE X cA W a f) (hs : noStar a = true) (hline : (apos.endLine == cpos.line) = true) : SE X cA W (.Call (.Attribute (.Name x p1) "append" apos) [a] [] cpos) (appE i f) := by
  have hst : starEach [a] X.env = (false, eval a X.env) :: starEach [] X.env := starEach_cons hs
  refine PE_mono (pe_bm PySem.F.plainAttrs_list PySem.F.slot_list_append PySem.F.type_list_append mt_append hx (pa_cons ha pa_nil hst) rfl (by rw [hst]; rfl) hline hst rfl) fun σ H Q h => ?_
  obtain ⟨F, fp, s, r, p⟩ := h
  unfold appE at p
  split at p
  · rename_i xs hxs
    refine name_al r hxs rfl fun o H3 F3 fp3 g3 r3 ho => ?_
    obtain ⟨pa, vs, rfl, m, n, hf⟩ := own_list r3 hxs ho
    refine ⟨.inl ⟨rfl, vs, .of m⟩, ?_⟩
    have z := pen_run (C := fun F => KE X.K cA W F σ Q) (W := W) KE_mono r3 (Po.up g3 p fun _ _ _ z => KE_mono _ _ _ _ g3 z)
    obtain ⟨F0, fp0, s0, r0, p0⟩ := z
    refine ⟨F0, fp0, s0, r0, Po.up (Same.refl _) p0 fun ev' s' _ z y H4 F' fp' g' r' q' => ?_⟩
    obtain ⟨F5, fp5, s5, e5, r5, q5, g5, p5⟩ := z y H4 F' fp' g' r' q'
    split at p5
    · rename_i d s6 hd
      obtain ⟨F6, fp6, g6, r6, q6, _⟩ := Ep.evV r5 q5 hd
      split at p5
      · rename_i ys hys
        split at p5
        · rename_i hfit
          obtain ⟨pa2, us, e2, m2, n2, hf2⟩ := own_list r6 hys ho
          cases e2
          have hl := n2.length
          have hfl := fits_le hfit
          refine ⟨pa, us, y, rfl, rfl, m2, Nat.lt_of_lt_of_le (by omega : us.length < LN) LN_le, ?_⟩
          have p6 : KE X.K cA W F5 σ Q (.val .non) (s6.set i (some (.lst true (ys ++ [d])))) := p5
          exact p6 .non _ F6 fp6 g6 (own_set r6 hys ho hf2 (n2.append (RepFs.one q6))) (Ev.fro rfl rfl)
        · exact p5.elim
      · exact p5.elim
    · exact p5.elim
  · exact p.elim
theorem ext_tup (q : Addr) (as : Array Value) (j : Nat) (c : Addr) (bs : Array Value) (m : Nat) (dd : Option Addr) (sl : Array (Option Value)) (w0 : ¬(!as.isEmpty && Builtin.List.listTooLong (as.size + bs.size)) = true)
    (w1 : as.size ≤ sizeLine) (w2 : as.size + bs.size ≤ sizeLine + 1) :
    Meets (Builtin.«list.extend» ⟨[.ref q, .ref c], []⟩) (fun _ R s => s.heap.get? q = some { cls := .type "list", dict := none, data := .seq as j, slots := #[] } ∧
      s.heap.get? c = some { cls := .type "tuple", dict := dd, data := .seq bs m, slots := sl } ∧ R (.ok (.ret Value.none)) { s with heap := s.heap.update q (Obj.mapSeq fun x => x ++ bs), toks := s.toks }) :=
  .of_wp fun prog w A R s hh => by
    obtain ⟨heap, gens, dr, tks, osx⟩ := s
    obtain ⟨a1, a2, a3⟩ := hh
    have k1 := sub_tuple_tuple
    have k2 := sub_list_list
    have k3 := sub_tuple_list
    have k4 := sub_list_tuple
    have k5 : (as ++ bs).size ≤ sizeLine + 1 := by rw [Array.size_append]; exact w2
    wp_walk using (wpAny_updateSeq a1 rfl (hz := w1) (_hz' := k5)), wpAny_loadPart' a1, wpAny_loadPart' a2
    exact ⟨_, rfl, a3⟩
/-- a list grows by a tuple's items -/
def rExtT (K : PySem.W.Frag) : V → List V → Hp → VK → Prop := fun x ws H Q => ∃ l b xs zs, x = .ref l ∧ ws = [.ref b] ∧ H l = some (.lst xs) ∧ SqT K H b zs ∧ xs.length + zs.length ≤ sizeLine ∧ Q .non (upd H l (.lst (xs ++ zs)))
theorem mt_extT {X : Cx} : MtM X "list.extend" (rExtT X.K) := by
  intro pins s σ H x ws v us Q I rx rv h
  obtain ⟨l, b, xs, zs, rfl, rfl, hH, hB, hz, q⟩ := h
  cases rx
  obtain ⟨u, rfl, ru⟩ := rv.one
  cases ru
  obtain ⟨z, its, n, r, hl, e⟩ := I.lstM hH
  obtain ⟨its2, r2, ⟨⟨cl, dd, da, sl⟩, e2, c2, m, d2⟩, hl2⟩ := I.tuple hB
  have c2 : cl = .type "tuple" := c2
  have d2 : da = .seq its2.toArray m := d2
  subst c2
  subst d2
  have hl3 := r2.length
  have hsum : its.toArray.size + its2.toArray.size ≤ sizeLine := by rw [List.size_toArray, List.size_toArray]; omega
  have hno : ¬ (!its.toArray.isEmpty && Builtin.List.listTooLong (its.toArray.size + its2.toArray.size)) = true := by
    rw [notLongL hsum, Bool.and_false]
    exact Bool.false_ne_true
  refine call_meets F.slot_list_extend ⟨_, e, rfl⟩ F.entry_list_extend (F.args_list_extend_2 _ _) (ext_tup l its.toArray n b its2.toArray m dd sl hno (by rw [List.size_toArray]; omega) (by omega)) ⟨e, e2, ?_⟩
  exact ⟨.non, _, I.lset (its' := its ++ its2) hH e (by simp) (r.append r2) (by rw [List.length_append]; omega), rfl, q⟩
theorem mt_extA {X : Cx} : MtM X "list.extend" (fun x ws H Q => rExtend x ws H Q ∨ rExtT X.K x ws H Q) := by
  intro pins s σ H x ws v us Q I rx rv h
  rcases h with h | h
  · exact mt_extend pins s σ H x ws v us Q I rx rv h
  · exact mt_extT pins s σ H x ws v us Q I rx rv h
theorem se_ext {i : Nat} {x : Str} {p1 apos cpos : Pos} (hx : SE X cA W (.Name x p1) (nameE i)) (ha : SE X cA W a f) (hs : noStar a = true) (hline : (apos.endLine == cpos.line) = true) :
    SE X cA W (.Call (.Attribute (.Name x p1) "extend" apos) [a] [] cpos) (extE i f) := by
  have hst : starEach [a] X.env = (false, eval a X.env) :: starEach [] X.env := starEach_cons hs
  refine PE_mono (pe_bm PySem.F.plainAttrs_list PySem.F.slot_list_extend PySem.F.type_list_extend mt_extA hx (pa_cons ha pa_nil hst) rfl (by rw [hst]; rfl) hline hst rfl) fun σ H Q h => ?_
  obtain ⟨F, fp, s, r, p⟩ := h
  unfold extE at p
  split at p
  · rename_i xs hxs
    refine name_al r hxs rfl fun o H3 F3 fp3 g3 r3 ho => ?_
    obtain ⟨pa, vs, rfl, m, n, hf⟩ := own_list r3 hxs ho
    refine ⟨.inl ⟨rfl, vs, .of m⟩, ?_⟩
    have z := pen_run (C := fun F => KE X.K cA W F σ Q) (W := W) KE_mono r3 (Po.up g3 p fun _ _ _ z => KE_mono _ _ _ _ g3 z)
    obtain ⟨F0, fp0, s0, r0, p0⟩ := z
    refine ⟨F0, fp0, s0, r0, Po.up (Same.refl _) p0 fun ev' s' _ z y H4 F' fp' g' r' q' => ?_⟩
    obtain ⟨F5, fp5, s5, e5, r5, q5, g5, p5⟩ := z y H4 F' fp' g' r' q'
    split at p5
    · rename_i zs hzs
      split at p5
      · rename_i ys hys
        split at p5
        · rename_i hfit
          obtain ⟨pa2, us, e2, m2, n2, hf2⟩ := own_list r5 hys ho
          cases e2
          have hl := n2.length
          have hfl := fits_le hfit
          have p6 : KE X.K cA W F5 σ Q (.val .non) (s5.set i (some (.lst true (ys ++ zs)))) := p5
          obtain ⟨d, hd, hit⟩ := Option.bind_eq_some_iff.mp hzs
          cases d <;> simp only [D.items, reduceCtorEq, Option.some.injEq] at hit
          · subst hit
            obtain ⟨pb, ws, rfl, mb, nb⟩ := Ep.flat r5 q5 hd rfl
            have hl2 := nb.length
            exact .inr ⟨pa, pb, us, ws, rfl, rfl, m2, SqT_mono mb r5.fz, Nat.le_trans (by omega) LN_le, p6 .non _ F5 fp5 (Same.refl _) (own_set r5 hys ho hf2 (n2.append nb)) (Ev.fro rfl rfl)⟩
          · subst hit
            obtain ⟨pb, ws, rfl, mb, nb⟩ := Ep.list r5 q5 hd
            have hl2 := nb.length
            exact .inl ⟨pa, pb, us, ws, rfl, rfl, m2, mb, Nat.le_trans (by omega) LN_le, p6 .non _ F5 fp5 (Same.refl _) (own_set r5 hys ho hf2 (n2.append nb)) (Ev.fro rfl rfl)⟩
        · exact p5.elim
      · exact p5.elim
    · exact p5.elim
  · exact p.elim
theorem RepFs.dropLast {F : Hp} {ds : List D} {vs : List V} (h : RepFs X.K cA F ds vs) : RepFs X.K cA F ds.dropLast vs.dropLast := by
  rw [List.dropLast_eq_take, List.dropLast_eq_take, h.length]
  exact h.take _
theorem se_pop {i : Nat} {x : Str} {p1 apos cpos : Pos} (hx : SE X cA W (.Name x p1) (nameE i)) (hline : (apos.endLine == cpos.line) = true) : SE X cA W (.Call (.Attribute (.Name x p1) "pop" apos) [] [] cpos) (popE i) := by
  refine PE_mono (pe_bm0 PySem.F.plainAttrs_list PySem.F.slot_list_pop PySem.F.type_list_pop mt_pop hx rfl hline) fun σ H Q h => ?_
  obtain ⟨F, fp, s, r, p⟩ := h
  unfold popE at p
  split at p
  · rename_i xs hxs
    split at p
    · rename_i d hd
      split at p
      · exact p.elim
      · rename_i ho'
        refine name_al r hxs rfl fun o H3 F3 fp3 g3 r3 ho => ?_
        obtain ⟨pa, vs, rfl, m, n, hf⟩ := own_list r3 hxs ho
        refine ⟨.inl ⟨rfl, vs, .of m⟩, ?_⟩
        obtain ⟨v, hv, q⟩ := n.get hd
        refine ⟨pa, vs, v, rfl, rfl, m, by rw [← n.length]; exact hv, ?_⟩
        exact p v _ F3 fp3 g3 (own_set r3 hxs ho hf n.dropLast) (Ev.fro (by simpa using ho') q)
    · exact p.elim
  · exact p.elim

/-! ### displays with stars -/
theorem pend_items {F : Hp} {σ : L2.St} : ∀ {ds : List D} {vs : List V}, RepFs X.K cA F ds vs → plainL ds = true → ∀ {es : List EV} {us : List V}, Eps X.K cA F σ us es → Eps X.K cA F σ (vs ++ us) (ds.map EV.val ++ es)
  | [], vs, h, _, es, us, q => by
    cases (show vs = [] from h)
    exact q
  | d :: ds, vs, h, hp, es, us, q => by
    obtain ⟨v, r, rfl, h1, h2⟩ := h
    have hp : (!d.own && plainL ds) = true := hp
    rw [Bool.and_eq_true] at hp
    exact ⟨.val d, _, rfl, ⟨h1, by simpa using hp.1⟩, pend_items h2 hp.2 q⟩
theorem sa_plain {fs : List (Bool × (Sl → R EV))} (ha : SE X cA W e f) (hr : SA X cA W es (argsX fs)) (hs : noStar e = true) : SA X cA W (e :: es) (argsX ((false, f) :: fs)) := by
  refine PA_mono (pa_cons ha hr (starEach_cons hs)) fun σ H Q h => ?_
  obtain ⟨F, fp, s, r, p⟩ := h
  have z := pen_run (C := fun F => KA X.K cA W F σ Q) KA_mono r p
  obtain ⟨F0, fp0, s0, r0, p0⟩ := z
  refine ⟨F0, fp0, s0, r0, Po.up (Same.refl _) p0 fun ev s' _ z x H1 F' fp' g' r' q' => ?_⟩
  obtain ⟨F1, fp1, s1, e1, r1, q1, g1, p1⟩ := z x H1 F' fp' g' r' q'
  refine ⟨F1, fp1, s1, r1, Po.bind p1 fun es2 s2 _ p2 vs H2 F2 fp2 g2 r2 q2 => ?_⟩
  exact p2 (x :: vs) H2 F2 fp2 g2 r2 ⟨e1, es2, rfl, q1.mono g2, q2⟩
theorem sa_star {fs : List (Bool × (Sl → R EV))} {p : Pos} (ha : SE X cA W e f) (hr : SA X cA W es (argsX fs)) : SA X cA W (.Starred e p :: es) (argsX ((true, f) :: fs)) := by
  refine PA_mono (StX.pa_star ha hr) fun σ H Q h => ?_
  obtain ⟨F, fp, s, r, p⟩ := h
  have z := pen_run (C := fun F => KA X.K cA W F σ Q) KA_mono r p
  obtain ⟨F0, fp0, s0, r0, p0⟩ := z
  refine ⟨F0, fp0, s0, r0, Po.up (Same.refl _) p0 fun ev s' _ z x H1 F' fp' g' r' q' => ?_⟩
  obtain ⟨F1, fp1, s1, e1, r1, q1, g1, p1⟩ := z x H1 F' fp' g' r' q'
  unfold starK at p1
  split at p1
  · rename_i ds hds
    split at p1
    · rename_i hp
      obtain ⟨d, hd, hit⟩ := Option.bind_eq_some_iff.mp hds
      have key : ∃ a xs, x = .ref a ∧ (SqT X.K H1 a xs ∨ SqL X.K H1 a xs) ∧ RepFs X.K cA F1 ds xs := by
        cases d <;> simp only [D.items, reduceCtorEq, Option.some.injEq, D.its] at hit
        · subst hit
          obtain ⟨a, xs, rfl, m, n⟩ := Ep.flat r1 q1 hd rfl
          exact ⟨a, xs, rfl, .inl (SqT_mono m r1.fz), n⟩
        · subst hit
          obtain ⟨a, xs, rfl, m, n⟩ := Ep.list r1 q1 hd
          exact ⟨a, xs, rfl, .inr (.of m), n⟩
      obtain ⟨a, xs, rfl, m, n⟩ := key
      refine ⟨a, xs, rfl, m, F1, fp1, s1, r1, Po.bind p1 fun es2 s2 _ p2 vs H2 F2 fp2 g2 r2 q2 => ?_⟩
      exact p2 (xs ++ vs) H2 F2 fp2 g2 r2 (pend_items (n.mono g2) hp q2)
    · exact p1.elim
  · exact p1.elim
theorem sa_nilX : SA X cA W [] (argsX []) := by
  refine PA_mono pa_nil fun σ H Q h => ?_
  obtain ⟨F, fp, s, r, p⟩ := h
  exact p [] H F fp (Same.refl F) r rfl
theorem sv_ofX {fs : List (Bool × (Sl → R EV))} (ha : SA X cA W es (argsX fs)) : SV X cA W es (valsX fs) := by
  refine PA_mono ha fun σ H Q h => ?_
  obtain ⟨F, fp, s, r, p⟩ := h
  refine ⟨F, fp, s, r, Po.bind p fun es1 s1 _ p1 vs H1 F1 fp1 g1 r1 q1 => ?_⟩
  split at p1
  · rename_i ds s2 hd
    obtain ⟨F2, fp2, g2, r2, q2⟩ := Eps.evVs r1 q1 hd
    exact p1 vs H1 F2 fp2 (g1.trans g2) r2 q2
  · exact p1.elim
end
end NS
namespace NS
open PySem PySem.Spec PyProof.Rows L2

/-! ## dicts: made, copied, asked, stored, walked -/
def dnewE : Sl → R EV := fun s => .ok (.val (.dct true [] [])) s
def dpairs : List D → Option (List (Key × D))
  | [] => some []
  | .tup [k, v] :: r => k.key.bind fun k => (dpairs r).map ((k, v) :: ·)
  | _ => none
def dictOp : List D → Option D
  | [.dct _ ks xs] => some (.dct true ks xs)
  | [.lst _ ps] => (dpairs ps).map fun r => .dct true (dmerge ([], []) r).1 (dmerge ([], []) r).2
  | _ => none
def gotE (e : EV) (s : Sl) : R EV := match e with
  | .val d => .ok (.val d) s
  | .al _ => .no
def dgetK (i : Nat) (ex : EV) (ek : EV) (s : Sl) : R EV := match evR ek s, s[i]? with
  | some dk, some (some (.dct _ ks xs)) => match dk.key with
    | some k => match dgetD ks xs k with
      | some d => if d.own then .no else .ok (.val d) s
      | none => gotE ex s
    | none => .no
  | _, _ => .no
def isDct : Option (Option D) → Bool
  | some (some (.dct _ _ _)) => true
  | _ => false
def dget1E (i : Nat) (fk : Sl → R EV) : Sl → R EV := fun s => if isDct s[i]? then penE fk (dgetK i (.val .non)) s else .no
def dget2E (i : Nat) (fk fx : Sl → R EV) : Sl → R EV := fun s => if isDct s[i]? then penE fk (fun ek => penE fx fun ex => dgetK i ex ek) s else .no
def dstoK (i : Nat) (ev ek : EV) (s : Sl) : R Unit := match evV ev s with
  | some (d, s1) => match evR ek s1, s1[i]? with
    | some dk, some (some (.dct true ks xs)) => match dk.key with
      | some k => if fits (ks.length + 1) then .ok () (s1.set i (some (.dct true (dputD ks xs k d).1 (dputD ks xs k d).2))) else .no
      | none => .no
    | _, _ => .no
  | none => .no
def nxU' (_ : Unit) (s : Sl) : Fl := .nx s
def dsto1 (i : Nat) (fk : Sl → R EV) (ev : EV) (s : Sl) : R Unit := if isDct s[i]? then penE fk (dstoK i ev) s else .no
def dstoS (i : Nat) (fk fe : Sl → R EV) : Sl → Fl := fun s => (penE fe (dsto1 i fk) s).to nxU'
def lcD (i : Nat) (tt : D → Sl → Option Sl) (vs : List Nat) (c : Sl → R Bool) (f : Sl → R EV) : Sl → R EV := fun s => match s[i]? with
  | some (some (.dct _ ks xs)) => (lcL tt vs c f (ks.map keyD) (s.set i (some (.dct false ks xs))) []).bind fun acc s2 => .ok (.val (.lst true acc)) (wipeS s2 vs)
  | _ => .no
def noexS : Fl → Fl
  | .ex _ _ => .no
  | r => r
def forD (i : Nat) (tt : D → Sl → Option Sl) (body : Sl → Fl) : Sl → Fl := fun s => match s[i]? with
  | some (some (.dct _ ks xs)) => noexS (forL (stepS tt body) (ks.map keyD) (s.set i (some (.dct false ks xs))))
  | _ => .no

section
variable {X : Cx} {cA : Nat → Addr} {W : Gx} {e a b c tg : Expr} {es : List Expr} {f g h : Sl → R EV} {pos : Pos}
theorem new_dct {F H : Hp} {fp : Nat → List Addr} {s : Sl} {σ : L2.St} {p : Addr} {ks : List Key} {vs : List V} {ds : List D} (r : Rl X.K cA F W.P W.pn fp s σ H) (ha : H p = none) (hl : ks.length = vs.length) (q : RepFs X.K cA F ds vs) :
    Rl X.K cA F W.P W.pn fp s σ (upd H p (.dK (ks.zip vs))) ∧ Ev X.K cA F W.P (upd H p (.dK (ks.zip vs))) fp s σ (.ref p) (.val (.dct true ks ds)) := by
  refine ⟨r.new ha _, [p], ⟨p, vs, rfl, upd_same, hl, q, rfl⟩, by simp, fun j b hb hj => ?_, fun b hb => ?_⟩
  · rw [List.mem_singleton.mp hb] at hj
    obtain ⟨o, z⟩ := r.there hj
    rw [ha] at z; cases z
  · rw [List.mem_singleton.mp hb]
    exact ⟨Same.free r.fz ha, Same.free r.pr ha⟩
theorem Ke.dct {F H : Hp} {fp : Nat → List Addr} {s : Sl} {σ : L2.St} {Q : VK} {ks : List Key} {ds : List D} {vs : List V} {p : Addr} (k : KE X.K cA W F σ Q (.val (.dct true ks ds)) s) (r : Rl X.K cA F W.P W.pn fp s σ H) (hp : H p = none) (hl : ks.length = vs.length) (q : RepFs X.K cA F ds vs) : Q (.ref p) (upd H p (.dK (ks.zip vs))) := by
  obtain ⟨r2, q2⟩ := new_dct r hp hl q
  exact k _ _ F fp (Same.refl F) r2 q2
theorem se_dnew : SE X cA W (.Dict [] [] pos) dnewE := by
  refine PE_mono pe_dnewK fun σ H Q h => ?_
  obtain ⟨F, fp, s, r, p⟩ := h
  exact fun q hq => Ke.dct (ks := []) (vs := []) (ds := []) p r hq rfl rfl
abbrev rDictC : List V → Hp → VK → Prop := fun xs H Q => ∃ a kvs, xs = [V.ref a] ∧ Rd H a (.dK kvs) ∧ ∀ p, H p = none → Q (.ref p) (upd H p (.dK kvs))
theorem call_dictC : CallR X (.type "dict") rDictC := by
  intro pins s σ H xs us Q I r q
  obtain ⟨a, kvs, ex, e, q⟩ := q
  subst ex
  obtain ⟨u, eu, rx⟩ := vals1 r
  subst eu
  cases rx
  exact d_copyOf I e fun p s' hp I' => ⟨.ref p, _, I', rfl, q p hp⟩
abbrev rDictP (K : PySem.W.Frag) : List V → Hp → VK → Prop := fun xs H Q => ∃ (a : Addr) (ps : List Addr) (kvs : List (Key × V)), xs = [.ref a] ∧ SqL K H a (ps.map V.ref) ∧ Paired (fun p kv => SqT K H p [kV kv.1, kv.2]) ps kvs ∧
    ∀ p, H p = none → Q (.ref p) (upd H p (.dK (mergeK [] kvs)))
theorem dpairs_ok {K : PySem.W.Frag} {F H : Hp} (e : Same F H) : ∀ {ds : List D} {r : List (Key × D)} {vs : List V}, dpairs ds = some r → RepFs K cA F ds vs → ∃ (as : List Addr) (ws : List V), vs = as.map V.ref ∧ RepFs K cA F (r.map (·.2)) ws ∧ r.length = ws.length ∧ Paired (fun p kv => SqT K H p [kV kv.1, kv.2]) as ((r.map (·.1)).zip ws)
  | [], r, vs, h, q => by
    cases h
    cases (show vs = [] from q)
    exact ⟨[], [], rfl, rfl, rfl, .nil⟩
  | d :: ds, r, vs, h, q => by
    obtain ⟨v, vr, rfl, q1, q2⟩ := q
    unfold dpairs at h
    split at h
    · rename_i hq
      cases hq
    · rename_i dk dv dr hq
      cases hq
      obtain ⟨k, hk, h⟩ := Option.bind_eq_some_iff.mp h
      obtain ⟨r', hr, rfl⟩ := Option.map_eq_some_iff.mp h
      obtain ⟨as, ws, rfl, h1, h2, h3⟩ := dpairs_ok e hr q2
      obtain ⟨A, us, rfl, m, n⟩ := q1
      obtain ⟨u1, ur, rfl, n1, u2, ur2, rfl, n2, n3⟩ := n
      cases (show ur2 = [] from n3)
      cases key_kV hk n1
      exact ⟨A :: as, u2 :: ws, rfl, ⟨u2, ws, rfl, n2, h1⟩, by simp [h2], .cons (SqT_mono m e) h3⟩
    · cases h
theorem dict_ok : CallOk X cA W dictOp (fun xs H Q => rDictC xs H Q ∨ rDictP X.K xs H Q) := by
  intro F fp s σ H es ds d vs Q r q hd ho k
  rcases ds with _ | ⟨d1, _ | ⟨d2, ds⟩⟩
  · cases ho
  · obtain ⟨v, ev, rfl, rfl, q1, h1⟩ := q.one hd
    cases d1 <;> simp only [dictOp, reduceCtorEq, Option.some.injEq] at ho
    · obtain ⟨r', hr, rfl⟩ := Option.map_eq_some_iff.mp ho
      obtain ⟨a, vs, rfl, m, n⟩ := Ep.list r q1 h1
      obtain ⟨as, ws, rfl, n1, n2, n3⟩ := dpairs_ok r.fz hr n
      obtain ⟨us, e1, e2, e3⟩ := dmerge_ok (r := r') (ks := []) (xs := []) (vs := []) n1 rfl rfl
      refine .inr ⟨a, as, _, rfl, .of m, n3, fun p hp => ?_⟩
      have e1 : mergeK [] ((r'.map (·.1)).zip ws) = _ := e1
      rw [e1]
      exact Ke.dct k r hp e2 e3
    · subst ho
      obtain ⟨a, vs, rfl, m, hl, n⟩ := Ep.dict r q1 h1
      exact .inl ⟨a, _, rfl, m, fun p hp => Ke.dct k r hp hl n⟩
  · simp only [dictOp, reduceCtorEq] at ho
theorem se_dict {p : Pos} {fs : List (Sl → R EV)} (hc : X.calm = true) (hg : Gl X "dict") (hm : X.mg "dict" = none) (ha : SA X cA W (e :: es) (argsE fs)) (hs : (e :: es).all noStar = true) : SE X cA W (.Call (.Name "dict" p) (e :: es) [] pos) (bltE dictOp fs) :=
  se_callTy (T := "dict") (call_dictC.or (call_dictP hc)) dict_ok hg hm (by decide +kernel) ha (by decide) (by decide) hs
/-- a slot's dict, when it is asked -/
theorem slot_dct {F H : Hp} {fp : Nat → List Addr} {s : Sl} {σ : L2.St} {i : Nat} {o : Bool} {ks : List Key} {xs : List D} {v : V} (r : Rl X.K cA F W.P W.pn fp s σ H) (e : s[i]? = some (some (.dct o ks xs))) (hv : σ[i]? = some (some v)) : ∃ p vs, v = .ref p ∧ Rd H p (.dK (ks.zip vs)) ∧ ks.length = vs.length ∧ RepFs X.K cA F xs vs := by
  obtain ⟨u, h1, q⟩ := r.sl i _ e
  rw [hv] at h1
  cases h1
  cases o with
  | true =>
    obtain ⟨p, vs, rfl, h2, hl, h3, h4⟩ := q
    exact ⟨p, vs, rfl, .inl h2, hl, h3⟩
  | false =>
    obtain ⟨⟨p, vs, rfl, h2, hl, h3⟩, h4⟩ := q
    exact ⟨p, vs, rfl, h2.elim (fun z => .inl (r.fz _ _ z)) (fun ⟨o, z⟩ => .inr ⟨o, r.fz _ _ z⟩), hl, h3⟩
theorem key_of_ep {F H : Hp} {fp : Nat → List Addr} {s : Sl} {σ : L2.St} {ev : EV} {d : D} {k : Key} {x : V} (r : Rl X.K cA F W.P W.pn fp s σ H) (q1 : Ep X.K cA F σ x ev) (h1 : evR ev s = some d) (hk : d.key = some k) : x = kV k := by
  cases d <;> simp only [D.key, reduceCtorEq, Option.some.injEq] at hk
  · subst hk; exact int_of r q1 h1
  · subst hk; exact str_of r q1 h1
theorem dgetK_run {F H : Hp} {fp : Nat → List Addr} {s : Sl} {σ : L2.St} {Q : VK} {i : Nat} {ek ex : EV} {y z : V} {p : Addr} (r : Rl X.K cA F W.P W.pn fp s σ H) (hv : σ[i]? = some (some (.ref p))) (qk : Ep X.K cA F σ y ek) (qx : Ep X.K cA F σ z ex) (h : Po X.K cA W F σ (dgetK i ex ek s) (KE X.K cA W F σ Q)) : ∃ o, DGet H p y o ∧ Q (o.getD z) H := by
  unfold dgetK at h
  split at h
  · rename_i dk o ks xs h1 h2
    obtain ⟨p', vs, e, m, hl, n⟩ := slot_dct r h2 hv
    cases e
    split at h
    · rename_i k hk
      cases key_of_ep r qk h1 hk
      obtain ⟨g1, g2⟩ := dget_ok (k := k) hl n
      split at h
      · rename_i d hd
        obtain ⟨v, e1, e2⟩ := g1 d hd
        split at h
        · exact h.elim
        · rename_i ho
          exact ⟨some v, .inl ⟨_, k, m, rfl, e1.symm⟩, Ke.fin h r (by simpa using ho) e2⟩
      · rename_i hd
        unfold gotE at h
        split at h
        · exact ⟨none, .inl ⟨_, k, m, rfl, (g2 hd).symm⟩, Ke.fin h r qx.2 qx.1⟩
        · exact h.elim
    · exact h.elim
  · exact h.elim
theorem isDct_slot {F H : Hp} {fp : Nat → List Addr} {s : Sl} {σ : L2.St} {i : Nat} (r : Rl X.K cA F W.P W.pn fp s σ H) (h : isDct s[i]? = true) : ∃ p, σ[i]? = some (some (.ref p)) ∧ IsD H p := by
  unfold isDct at h
  split at h
  · rename_i o ks xs e
    obtain ⟨v, hv, _⟩ := r.sl i _ e
    obtain ⟨p, vs, rfl, m, _⟩ := slot_dct r e hv
    exact ⟨p, hv, .inl ⟨_, m⟩⟩
  · cases h
theorem se_dget2 {i : Nat} {x : Str} {p1 apos cpos : Pos} (hu : X.A.units + 1 < cLine) (hx : PE X (.Name x p1) (tVar i)) (ha : SE X cA W a f) (hb : SE X cA W b g) (h1 : noStar a = true) (h2 : noStar b = true) (hline : (apos.endLine == cpos.line) = true) :
    SE X cA W (.Call (.Attribute (.Name x p1) "get" apos) [a, b] [] cpos) (dget2E i f g) := by
  have hst : starEach [a, b] X.env = [(false, eval a X.env), (false, eval b X.env)] := by rw [starEach_cons h1, starEach_cons h2]; rfl
  refine PE_mono (pe_dget2 hu hx ha hb ⟨rfl, by rw [hst]; rfl, hline, by rw [hst]; rfl⟩) fun σ H Q h => ?_
  obtain ⟨F, fp, s, r, p⟩ := h
  unfold dget2E at p
  split at p
  · rename_i hd
    obtain ⟨pa, hv, hI⟩ := isDct_slot r hd
    refine ⟨.ref pa, hv, pa, rfl, hI, ?_⟩
    have z := pen_run (C := fun F => KE X.K cA W F σ Q) (W := W) KE_mono r p
    obtain ⟨F0, fp0, s0, r0, p0⟩ := z
    refine ⟨F0, fp0, s0, r0, Po.up (Same.refl _) p0 fun ev' s' _ z y H4 F' fp' g' r' q' => ?_⟩
    obtain ⟨F5, fp5, s5, e5, r5, q5, g5, p5⟩ := z y H4 F' fp' g' r' q'
    have z := pen_run (C := fun F => KE X.K cA W F σ Q) (W := W) KE_mono r5 p5
    obtain ⟨F6, fp6, s6, r6, p6⟩ := z
    refine ⟨F6, fp6, s6, r6, Po.up (Same.refl _) p6 fun ev' s' _ z w H7 F' fp' g' r' q' => ?_⟩
    obtain ⟨F8, fp8, s8, e8, r8, q8, g8, p8⟩ := z w H7 F' fp' g' r' q'
    exact dgetK_run r8 hv (q5.mono g8) q8 p8
  · exact p.elim
theorem se_dget1 {i : Nat} {x : Str} {p1 apos cpos : Pos} (hu : X.A.units + 1 < cLine) (hx : PE X (.Name x p1) (tVar i)) (ha : SE X cA W a f) (h1 : noStar a = true) (hline : (apos.endLine == cpos.line) = true) :
    SE X cA W (.Call (.Attribute (.Name x p1) "get" apos) [a] [] cpos) (dget1E i f) := by
  have hst : starEach [a] X.env = [(false, eval a X.env)] := by rw [starEach_cons h1]; rfl
  refine PE_mono (pe_dget1 hu hx ha ⟨rfl, by rw [hst]; rfl, hline, by rw [hst]; rfl⟩) fun σ H Q h => ?_
  obtain ⟨F, fp, s, r, p⟩ := h
  unfold dget1E at p
  split at p
  · rename_i hd
    obtain ⟨pa, hv, hI⟩ := isDct_slot r hd
    refine ⟨.ref pa, hv, pa, rfl, hI, ?_⟩
    have z := pen_run (C := fun F => KE X.K cA W F σ Q) (W := W) KE_mono r p
    obtain ⟨F0, fp0, s0, r0, p0⟩ := z
    refine ⟨F0, fp0, s0, r0, Po.up (Same.refl _) p0 fun ev' s' _ z y H4 F' fp' g' r' q' => ?_⟩
    obtain ⟨F5, fp5, s5, e5, r5, q5, g5, p5⟩ := z y H4 F' fp' g' r' q'
    exact dgetK_run (ex := .val .non) (z := .non) r5 hv q5 ⟨rfl, rfl⟩ p5
  · exact p.elim
theorem ss_dsto {i : Nat} {x : Str} {p1 p2 : Pos} (hu : X.A.units + 1 < cLine) (hx : PE X (.Name x p1) (tVar i)) (hi : SE X cA W b g) (he : SE X cA W e f) (hn : notComp e = true) (hs : notSlice b = true) : SS X cA W (.Assign [.Subscript (.Name x p1) b p2] e pos) (dstoS i g f) := by
  refine PS_mono (ps_dput hu hx hi he (show swapsWith e (some (.Subscript (.Name x p1) b p2)) pos.line X.env = pure false from swaps_no hn)) fun D σ H h => ?_
  obtain ⟨F, fp, s, r, p⟩ := h
  refine ⟨F, fp, s, r, ?_⟩
  have p' : PoS X.K cA W F D ((f s).to fun e s1 => (dsto1 i g e.pend s1).to nxU') := by
    have z : dstoS i g f s = ((f s).to fun e s1 => (dsto1 i g e.pend s1).to nxU') := by
      unfold dstoS penE
      cases f s <;> rfl
    rw [← z]
    exact p
  refine PoS.to p' fun ev s1 _ p1 v H1 F1 fp1 g1 r1 q1 => ?_
  obtain ⟨F2, g2, r2, q2⟩ := q1.pend r1
  have g12 := g1.trans g2
  unfold dsto1 at p1
  split at p1
  · rename_i hd
    obtain ⟨pa, hv, hI⟩ := isDct_slot r2 hd
    refine ⟨.ref pa, hv, ?_⟩
    have p2 := PoS.to (C := fun (_ : Unit) s' => PoS X.K cA W F D (.nx s')) (σ := σ) p1 (fun _ _ _ z => z)
    have z := pen_run (C := fun F (_ : Unit) s' => PoS X.K cA W F D (.nx s')) (W := W) (fun F F' b s g h => PoS.up g h) r2 (Po.up g12 p2 fun _ _ _ z => PoS.up g12 z)
    obtain ⟨F0, fp0, s0, r0, p0⟩ := z
    refine ⟨F0, fp0, s0, r0, Po.up (Same.refl _) p0 fun ev' s' _ z y H4 F' fp' g' r' q' => ?_⟩
    obtain ⟨F5, fp5, s5, e5, r5, q5, g5, p5⟩ := z y H4 F' fp' g' r' q'
    unfold dstoK at p5
    split at p5
    · rename_i d s6 hd
      obtain ⟨F6, fp6, g6, r6, q6, _⟩ := Ep.evV r5 (q2.mono g5) hd
      split at p5
      · rename_i dk ks xs h1 h2
        split at p5
        · rename_i k hk
          cases key_of_ep r6 (q5.mono g6) h1 hk
          split at p5
          · rename_i hf
            obtain ⟨u, hu', q⟩ := r6.sl i _ h2
            rw [hv] at hu'
            cases hu'
            obtain ⟨p', vs, e, m, hl, n, hfp⟩ := q
            cases e
            obtain ⟨us, e1, e2, e3⟩ := dput_ok (k := k) q6 hl n
            have hzl : (ks.zip vs).length < sizeLine := by
              have := fits_le hf
              have hz : (ks.zip vs).length = ks.length := by rw [List.length_zip]; omega
              exact Nat.lt_of_lt_of_le (by omega : (ks.zip vs).length < LN) LN_le
            refine ⟨pa, _, rfl, DPut.k m hzl, ?_⟩
            rw [e1]
            have p6 : PoS X.K cA W F5 D (.nx (s6.set i (some (.dct true (dputD ks xs k d).1 (dputD ks xs k d).2)))) := p5
            exact p6 σ _ F6 fp6 g6 (r6.write h2 hv (by rw [hfp]; simp) ⟨pa, us, rfl, upd_same, e2, e3, hfp⟩)
          · exact p5.elim
        · exact p5.elim
      · exact p5.elim
    · exact p5.elim
  · exact p1.elim
/-- one rule or the other -/
theorem PE_or {e : Expr} {t t' : TE} (h : PE X e t) (h' : PE X e t') : PE X e (fun σ H Q => t σ H Q ∨ t' σ H Q) := ⟨fun pins s σ H Q I q => q.elim (h.run pins s σ H Q I) (h'.run pins s σ H Q I)⟩
theorem PS_or {st : Stmt} {t t' : TS} (h : PS X st t) (h' : PS X st t') : PS X st (fun D σ H => t D σ H ∨ t' D σ H) := ⟨fun pins s σ H D I q => q.elim (h.run pins s σ H D I) (h'.run pins s σ H D I)⟩
theorem itd_keys {K : PySem.W.Frag} {cA : Nat → Addr} {F : Hp} {a : Addr} {o : Obj} {ks : List Key} {vs : List V} (h : F a = some (.frz o (.dK (ks.zip vs)))) (hl : ks.length = vs.length) : ItD K cA F (Itk a o (ks.zip vs)) (ks.map keyD) := by
  intro i H g
  have hz : (ks.zip vs).length = ks.length := by rw [List.length_zip]; omega
  refine ⟨fun d hd => ?_, fun e => ⟨g _ _ h, by rw [List.length_map] at e; omega⟩⟩
  rw [List.getElem?_map] at hd
  obtain ⟨k, hk, rfl⟩ := Option.map_eq_some_iff.mp hd
  have hi := (List.getElem?_eq_some_iff.mp hk).1
  refine ⟨⟨g _ _ h, by omega⟩, fun x H' y => ?_⟩
  obtain ⟨rfl, k', v, e, rfl⟩ := y
  refine ⟨keyD_own k, .inl ⟨rfl, ?_⟩⟩
  have : k' = k := by
    have e2 : ((ks.zip vs)[i]?).map Prod.fst = some k' := by rw [e]; rfl
    rw [← List.getElem?_map, List.map_fst_zip (by omega), hk] at e2
    cases e2; rfl
  subst this
  exact keyD_rep k'
/-- a slot's dict, shared from now on -/
theorem dct_freeze {F H : Hp} {fp : Nat → List Addr} {s : Sl} {σ : L2.St} {i : Nat} {o : Bool} {ks : List Key} {xs : List D} (r : Rl X.K cA F W.P W.pn fp s σ H) (e : s[i]? = some (some (.dct o ks xs))) :
    ∃ F1 fp1 p vs, Same F F1 ∧ Rl X.K cA F1 W.P W.pn fp1 (s.set i (some (.dct false ks xs))) σ H ∧ σ[i]? = some (some (.ref p)) ∧ Rd F1 p (.dK (ks.zip vs)) ∧ ks.length = vs.length ∧ RepFs X.K cA F1 xs vs := by
  have r1 := r.freeze e
  obtain ⟨v, hv, q⟩ := r1.sl i (D.dct false ks xs) (by
    have hi : i < s.length := (List.getElem?_eq_some_iff.mp e).1
    rw [List.getElem?_set_self hi]
    rfl)
  obtain ⟨⟨p, vs, rfl, m, hl, n⟩, _⟩ := q
  exact ⟨_, _, p, vs, r.fsame i, r1, hv, m, hl, n⟩
/-- a comprehension over a locked dict -/
theorem lcD_run {F H : Hp} {fp : Nat → List Addr} {s : Sl} {σ : L2.St} {i : Nat} {p : Addr} {o : Obj} {ks : List Key} {vs : List V} {iter elt : Expr} {ifs : List Expr} {scope : Scope} {own : List (Str × Nat)} {tt : D → Sl → Option Sl} {is : List Nat} {tc : Sl → R Bool} {t : TG} {Q : VK} (hv : ∀ i ∈ own.map (·.2), W.pn i = none) (hs : ∀ i ∈ is, i ∈ own.map (·.2)) (ht : TgB X cA W tg tt is t)
    (r : Rl X.K cA F W.P W.pn fp s σ H) (hi : σ[i]? = some (some (.ref p))) (m : F p = some (.frz o (.dK (ks.zip vs)))) (hl : ks.length = vs.length)
    (h : Po X.K cA W F σ ((lcL tt (own.map (·.2)) tc f (ks.map keyD) s []).bind fun acc s2 => .ok (.val (.lst true acc)) (wipeS s2 (own.map (·.2)))) (KE X.K cA W F σ Q)) : tLc (iKeys (tVar i)) t (tTB X cA W tc) (tEB X cA W f) (own.map (·.2)) σ H Q := by
  refine ⟨.ref p, hi, p, o, rfl, .inl ⟨ks.zip vs, r.fz _ _ m, fun A hA => ?_⟩⟩
  exact lc_ok (F0 := F) (P' := F) (H0 := H) (itd_keys m hl) hv hs ht r hA (Po.bind h fun acc s2 _ z => z)
theorem lcD_or {iter elt : Expr} {ifs : List Expr} {scope : Scope} {i : Nat} {own : List (Str × Nat)} {tt : D → Sl → Option Sl} {is : List Nat} {tc : Sl → R Bool} {t : TG} (hpn : ∀ i ∈ own.map (·.2), W.pn i = none) (hs : ∀ i ∈ is, i ∈ own.map (·.2)) (ht : TgB X cA W tg tt is t) {σ : L2.St} {H : Hp} {Q : VK}
    (h : tE X.K cA W (lcD i tt (own.map (·.2)) tc f) σ H Q) : tLc (iKeys (tVar i)) t (tTB X cA W tc) (tEB X cA W f) (own.map (·.2)) σ H Q ∨ tLockE (tLc (iKeys (tVar i)) t (tTB X cA W tc) (tEB X cA W f) (own.map (·.2))) σ H Q := by
  obtain ⟨F, fp, s, r, p⟩ := h
  unfold lcD at p
  split at p
  · rename_i o ks xs e
    obtain ⟨F1, fp1, pa, vs, g1, r1, hv, m, hl, n⟩ := dct_freeze r e
    have p := Po.up g1 p (C' := KE X.K cA W F1 σ Q) fun _ _ _ z => KE_mono _ _ _ _ g1 z
    rcases m with m | ⟨od, m⟩
    · refine .inr ⟨pa, .dK (ks.zip vs), r1.fz _ _ m, True.intro, fun od => ?_⟩
      have r2 := r1.lk (o' := .frz od (.dK (ks.zip vs))) m rfl rfl rfl
      refine lcD_run (iter := elt) (elt := elt) (ifs := ifs) (scope := scope) hpn hs ht r2 hv upd_same hl ?_
      revert p
      generalize hrr : ((lcL tt (own.map (·.2)) tc f (ks.map keyD) (s.set i (some (.dct false ks xs))) []).bind fun acc s2 => R.ok (EV.val (.lst true acc)) (wipeS s2 (own.map (·.2)))) = rr
      intro p
      cases rr with
      | no => exact p.elim
      | ex x' s' =>
        cases hlc : lcL tt (own.map (·.2)) tc f (ks.map keyD) (s.set i (some (.dct false ks xs))) [] with
        | ok a b => rw [hlc] at hrr; cases hrr
        | no => rw [hlc] at hrr; cases hrr
        | ex a b => exact (lcL_ne _ _ _ _ _ _ _ hlc).elim
      | ok ev s' =>
        intro v H' F' fp' g' r' q'
        have hF' : F' pa = some (.frz od (.dK (ks.zip vs))) := g' _ _ upd_same
        refine ⟨r'.fz _ _ hF', ?_⟩
        have r3 := r'.lk (o' := .dK (ks.zip vs)) hF' rfl rfl rfl
        have q3 := q'.lk (o' := .dK (ks.zip vs)) hF' rfl rfl rfl
        refine p v _ _ fp' (fun b u z => ?_) r3 q3
        by_cases hb : b = pa
        · subst hb; rw [m] at z; cases z; exact upd_same
        · rw [upd_ne hb]; exact g' _ _ (by rw [upd_ne hb]; exact z)
    · refine .inl ?_
      exact lcD_run (iter := elt) (elt := elt) (ifs := ifs) (scope := scope) hpn hs ht r1 hv m hl p
  · exact p.elim
theorem se_lcD {x : Str} {p1 : Pos} {i : Nat} {elt : Expr} {ifs : List Expr} {scope : Scope} {own : List (Str × Nat)} {tt : D → Sl → Option Sl} {is : List Nat} {tc : Sl → R Bool} (hc : X.calm = true) (hN : X.N.Nodup) (hx : PE X (.Name x p1) (tVar i)) (hb : BkOk X cA W scope tg ifs elt own tt is tc f) :
    SE X cA W (.ListComp elt [⟨tg, .Name x p1, ifs, 0⟩] scope pos) (lcD i tt (own.map (·.2)) tc f) := by
  obtain ⟨t, ht, hg⟩ := hb.tgt
  have base := pe_lc (pos := pos) hc hN (pi_keys hx) hb.blk hg hb.tst hb.elt (folded_eq (e := .Name x p1) rfl)
  exact PE_mono (PE_or base (pe_lock base)) fun σ H Q h => lcD_or (iter := elt) (elt := elt) (ifs := ifs) (scope := scope) hb.pn hb.sub ht h
theorem ss_setLcD {j : Nat} {y x : Str} {py p1 : Pos} {spos : Pos} {i : Nat} {elt : Expr} {ifs : List Expr} {scope : Scope} {own : List (Str × Nat)} {tt : D → Sl → Option Sl} {is : List Nat} {tc : Sl → R Bool} (hc : X.calm = true) (hN : X.N.Nodup) (hy : X.N[i]? = some y) (hyl : X.env.scope.names.lookup y = some .local)
    (hp : W.pn i = none) (hsw : swapsWith (.ListComp elt [⟨tg, .Name x p1, ifs, 0⟩] scope pos) (some (.Name y py)) spos.line X.env = pure true) (hx : PE X (.Name x p1) (tVar j)) (hb : BkOk X cA W scope tg ifs elt own tt is tc f) :
    SS X cA W (.Assign [.Name y py] (.ListComp elt [⟨tg, .Name x p1, ifs, 0⟩] scope pos) spos) (setS i (lcD j tt (own.map (·.2)) tc f)) := by
  obtain ⟨t, ht, hg⟩ := hb.tgt
  have base := ps_setLc (pos := pos) (py := py) (spos := spos) hc hN hy hyl hsw (pi_keys hx) hb.blk hg hb.tst hb.elt (folded_eq (e := .Name x p1) rfl)
  refine PS_mono (PS_or base (ps_lock base)) fun D σ H h => ?_
  rcases lcD_or (iter := elt) (elt := elt) (ifs := ifs) (scope := scope) hb.pn hb.sub ht (set_tail hp h) with z | ⟨d, u, e, mu, z⟩
  · exact .inl z
  · exact .inr ⟨d, u, e, mu, z⟩
def lockD (D : Ends) (d : Addr) (od : Obj) (u : HO) : Ends := ⟨fun σ' H' => H' d = some (.frz od u) ∧ D.nx σ' (upd H' d u), fun v H' => H' d = some (.frz od u) ∧ D.rt v (upd H' d u), fun σ' H' => H' d = some (.frz od u) ∧ D.bk σ' (upd H' d u), fun σ' H' => H' d = some (.frz od u) ∧ D.ct σ' (upd H' d u)⟩
theorem same_unlock {F F1 F' : Hp} {pa : Addr} {od : Obj} {kvs : List (Key × V)} (g1 : Same F F1) (m : F1 pa = some (.dK kvs)) (g' : Same (upd F1 pa (.frz od (.dK kvs))) F') : Same F (upd F' pa (.dK kvs)) := fun b u z => by
  by_cases hb : b = pa
  · subst hb
    have := g1 _ _ z
    rw [m] at this; cases this; exact upd_same
  · rw [upd_ne hb]; exact g' _ _ (by rw [upd_ne hb]; exact g1 _ _ z)
theorem PoS.lk {F F1 : Hp} {D : Ends} {r : Fl} {pa : Addr} {od : Obj} {kvs : List (Key × V)} (g1 : Same F F1) (m : F1 pa = some (.dK kvs)) (p : PoS X.K cA W F D (noexS r)) : PoS X.K cA W (upd F1 pa (.frz od (.dK kvs))) (lockD D pa od (.dK kvs)) r := by
  cases r with
  | nx s' =>
    intro σ H F' fp' g' r'
    have hF' : F' pa = some (.frz od (.dK kvs)) := g' _ _ upd_same
    exact ⟨r'.fz _ _ hF', p σ _ _ fp' (same_unlock g1 m g') (r'.lk (o' := .dK kvs) hF' rfl rfl rfl)⟩
  | bk s' =>
    intro σ H F' fp' g' r'
    have hF' : F' pa = some (.frz od (.dK kvs)) := g' _ _ upd_same
    exact ⟨r'.fz _ _ hF', p σ _ _ fp' (same_unlock g1 m g') (r'.lk (o' := .dK kvs) hF' rfl rfl rfl)⟩
  | ct s' =>
    intro σ H F' fp' g' r'
    have hF' : F' pa = some (.frz od (.dK kvs)) := g' _ _ upd_same
    exact ⟨r'.fz _ _ hF', p σ _ _ fp' (same_unlock g1 m g') (r'.lk (o' := .dK kvs) hF' rfl rfl rfl)⟩
  | rt d s' =>
    intro v σ H F' fp' g' r' q'
    have hF' : F' pa = some (.frz od (.dK kvs)) := g' _ _ upd_same
    exact ⟨r'.fz _ _ hF', p v σ _ _ fp' (same_unlock g1 m g') (r'.lk (o' := .dK kvs) hF' rfl rfl rfl) (q'.lk (o' := .dK kvs) hF' rfl rfl rfl)⟩
  | ex x s' => exact p.elim
  | no => exact p.elim
theorem noex_up {F : Hp} {D : Ends} {r : Fl} (p : PoS X.K cA W F D (noexS r)) : PoS X.K cA W F D r := by
  cases r <;> first | exact p | exact p.elim
theorem ss_forD {x : Str} {p1 : Pos} {i : Nat} {is : List Nat} {body : List Stmt} {tt : D → Sl → Option Sl} {fb : Sl → Fl} (hp : PassesOwn (model X.prog X.w) X.A X.env X.xe) (hc : X.calm = true) (hx : PE X (.Name x p1) (tVar i)) (hg : TgOk X cA W tg tt is) (hb : SSs X cA W body fb) :
    SS X cA W (.For tg (.Name x p1) body [] pos) (forD i tt fb) := by
  obtain ⟨t, ht, hq⟩ := hg
  have base := ps_for (pos := pos) hp hc (pi_keys hx) ht hb (folded_eq (e := .Name x p1) rfl)
  refine PS_mono (PS_or base (ps_lock base)) fun D σ H h => ?_
  obtain ⟨F, fp, s, r, p⟩ := h
  unfold forD at p
  split at p
  · rename_i o ks xs e
    obtain ⟨F1, fp1, pa, vs, g1, r1, hv, m, hl, n⟩ := dct_freeze r e
    rcases m with m | ⟨od, m⟩
    · refine .inr ⟨pa, .dK (ks.zip vs), r1.fz _ _ m, True.intro, fun od => ?_⟩
      have r2 := r1.lk (o' := .frz od (.dK (ks.zip vs))) m rfl rfl rfl
      exact ⟨.ref pa, hv, pa, od, rfl, .inl ⟨ks.zip vs, upd_same, for_ok (itd_keys upd_same hl) hq r2 (PoS.lk g1 m p)⟩⟩
    · exact .inl ⟨.ref pa, hv, pa, od, rfl, .inl ⟨ks.zip vs, r1.fz _ _ m, for_ok (itd_keys m hl) hq r1 (PoS.up g1 (noex_up p))⟩⟩
  · exact p.elim
end
end NS
namespace NS
open PySem PySem.Spec PyProof.Rows L2

/-! ## places of items, list(range), reversed slices, written tables -/
def idxL (d : D) : List D → Option Nat
  | [] => none
  | x :: xs => if eqS x d then some 0 else (idxL d xs).map (· + 1)
def idxD : D → D → Option D
  | .lst _ xs, d => if d.sc && xs.all D.sc then (idxL d xs).map fun (j : Nat) => .int j else none
  | .str z, .str y => (Txt.index0 z y).map fun (j : Nat) => .int j
  | _, _ => none
def idxR : D → Bool
  | .lst _ _ => true
  | .str _ => true
  | _ => false
def idxK (eo ea : EV) (s : Sl) : R EV := match evR eo s, evR ea s with
  | some d1, some d2 => match idxD d1 d2 with
    | some d => .ok (.val d) s
    | none => .no
  | _, _ => .no
def idx1 (fa : Sl → R EV) (eo : EV) (s : Sl) : R EV := if (match evR eo s with
  | some d => idxR d
  | none => false) then penE fa (idxK eo) s else .no
def idxE (fo fa : Sl → R EV) : Sl → R EV := penE fo (idx1 fa)
def lrngD : D → Option D
  | .int n => if decide (0 ≤ n) && decide (n ≤ 16000000) then some (.lst true (upto 0 n.toNat)) else none
  | _ => none
def revD : D → Option D
  | .lst _ xs => some (.lst true xs.reverse)
  | _ => none
def noE : Sl → R EV := fun _ => .no
def noT : Sl → R Bool := fun _ => .no
def noS : Sl → Fl := fun _ => .no
section
variable {X : Cx} {cA : Nat → Addr} {W : Gx} {e a b c tg : Expr} {es : List Expr} {f g h : Sl → R EV} {pos : Pos}
theorem se_no {ex : Expr} : SE X cA W ex noE := ⟨fun pins s σ H Q I h => by obtain ⟨F, fp, s, r, p⟩ := h; exact p.elim⟩
theorem st_no {ex : Expr} : ST X cA W ex noT := ⟨fun pins s σ H Q I h => by obtain ⟨F, fp, s, r, p⟩ := h; exact p.elim⟩
theorem ss_no {st : Stmt} : SS X cA W st noS := ⟨fun pins s σ H Q I h => by obtain ⟨F, fp, s, r, p⟩ := h; exact p.elim⟩
theorem idxL_ok {F : Hp} {d : D} {y : V} (hy : RepF X.K cA F d y) (sy : d.sc = true) : ∀ {xs : List D} {vs : List V} {j : Nat}, idxL d xs = some j → RepFs X.K cA F xs vs → xs.all D.sc = true →
    ∃ z, vs[j]? = some z ∧ eqV z y = true ∧ ∀ (m : Nat) (z' : V), m < j → vs[m]? = some z' → eqV z' y = false
  | [], vs, j, h, _, _ => by cases h
  | x :: xs, vs, j, h, q, hs => by
    obtain ⟨v, r, rfl, q1, q2⟩ := q
    rw [List.all_cons, Bool.and_eq_true] at hs
    have he := sc_eq q1 hy hs.1 sy
    rw [idxL] at h
    split at h
    · rename_i hx
      cases h
      exact ⟨v, rfl, by rw [he, hx], fun m z' hm => by omega⟩
    · rename_i hx
      obtain ⟨k, hk, rfl⟩ := Option.map_eq_some_iff.mp h
      obtain ⟨z, h1, h2, h3⟩ := idxL_ok hy sy hk q2 hs.2
      refine ⟨z, by simpa using h1, h2, fun m z' hm e => ?_⟩
      cases m with
      | zero =>
        simp at e
        subst e
        rw [he]
        simpa using hx
      | succ m => exact h3 m z' (by omega) (by simpa using e)
theorem se_idx {o : Expr} {fo fa : Sl → R EV} {apos cpos : Pos} (hc : X.calm = true) (tk : L2N.Takes X W.w) (ho : SE X cA W o fo) (ha : SE X cA W a fa) (hs : noStar a = true) (hb : notCall o = true) (hline : (apos.endLine == cpos.line) = true) : SE X cA W (.Call (.Attribute o "index" apos) [a] [] cpos) (idxE fo fa) := by
  have hst : starEach [a] X.env = (false, eval a X.env) :: starEach [] X.env := starEach_cons hs
  have r1 := pe_bm (cpos := cpos) (apos := apos) PySem.F.plainAttrs_list PySem.F.slot_list_index PySem.F.type_list_index (mt_index (X := X)) ho (pa_cons ha pa_nil hst) (attrBase_eq hb) (by rw [hst]; rfl) hline hst rfl
  have r2 := pe_bmS (cpos := cpos) (apos := apos) PySem.F.plainAttrs_str PySem.F.slot_str_index PySem.F.type_str_index (mt_indexX hc L2.takes0) ho (pa_cons ha pa_nil hst) (attrBase_eq hb) (by rw [hst]; rfl) hline hst rfl
  refine PE_mono (PE_or r1 r2) fun σ H Q h => ?_
  obtain ⟨F, fp, s, r, p⟩ := h
  unfold idxE penE at p
  cases hfo : fo s with
  | no => rw [hfo] at p; exact p.elim
  | ex x' s' =>
    rw [hfo] at p
    exact .inl ⟨F, fp, s, r, by rw [hfo]; exact p⟩
  | ok e1 s1 =>
    rw [hfo] at p
    have p : Po X.K cA W F σ (idx1 fa e1.pend s1) (KE X.K cA W F σ Q) := p
    unfold idx1 at p
    cases hd : evR e1.pend s1 with
    | none => rw [hd] at p; exact p.elim
    | some d =>
      rw [hd] at p
      dsimp only at p
      cases d with
      | lst o' xs =>
        have p : Po X.K cA W F σ (penE fa (idxK e1.pend) s1) (KE X.K cA W F σ Q) := p
        refine .inl ⟨F, fp, s, r, ?_⟩
        rw [hfo]
        intro v H1 F1 fp1 g1 r1 q1
        obtain ⟨F2, g2, r2, q2⟩ := q1.pend r1
        obtain ⟨pa, vs, rfl, m, n⟩ := Ep.list r2 q2 hd
        refine ⟨.inl ⟨rfl, vs, .of m⟩, ?_⟩
        have g12 := g1.trans g2
        have z := pen_run (C := fun F => KE X.K cA W F σ Q) (W := W) KE_mono r2 (Po.up g12 p fun _ _ _ z => KE_mono _ _ _ _ g12 z)
        obtain ⟨F0, fp0, s0, r0, p0⟩ := z
        refine ⟨F0, fp0, s0, r0, Po.up (Same.refl _) p0 fun ev' s' _ z y H4 F' fp' g' r' q' => ?_⟩
        obtain ⟨F5, fp5, s5, e5, r5, q5, g5, p5⟩ := z y H4 F' fp' g' r' q'
        unfold idxK at p5
        split at p5
        · rename_i d1 d2 h1 h2
          split at p5
          · rename_i d hd'
            cases d1 <;> simp only [idxD, reduceCtorEq] at hd'
            · cases d2 <;> simp only [reduceCtorEq] at hd'
              exact nomatch str_of r5 (q2.mono g5) h1
            · split at hd'
              · rename_i hsc
                rw [Bool.and_eq_true] at hsc
                obtain ⟨j, hj, rfl⟩ := Option.map_eq_some_iff.mp hd'
                obtain ⟨pb, us, e, m2, n2⟩ := Ep.list r5 (q2.mono g5) h1
                cases e
                have hy : RepF X.K cA F5 d2 y := Ep.flat r5 q5 h2 (by cases d2 <;> first | rfl | cases hsc.1)
                obtain ⟨z, k1, k2, k3⟩ := idxL_ok hy hsc.1 hj n2 hsc.2
                exact ⟨pa, us, y, j, z, rfl, rfl, .of m2, sc_flat hy hsc.1, scs_flat n2 hsc.2, k1, k2, k3, Ke.fin p5 r5 rfl rfl⟩
              · cases hd'
          · exact p5.elim
        · exact p5.elim
      | str zz =>
        have p : Po X.K cA W F σ (penE fa (idxK e1.pend) s1) (KE X.K cA W F σ Q) := p
        refine .inr ⟨F, fp, s, r, ?_⟩
        rw [hfo]
        intro v H1 F1 fp1 g1 r1 q1
        obtain ⟨F2, g2, r2, q2⟩ := q1.pend r1
        cases str_of r2 q2 hd
        refine ⟨rfl, ?_⟩
        have g12 := g1.trans g2
        have z := pen_run (C := fun F => KE X.K cA W F σ Q) (W := W) KE_mono r2 (Po.up g12 p fun _ _ _ z => KE_mono _ _ _ _ g12 z)
        obtain ⟨F0, fp0, s0, r0, p0⟩ := z
        refine ⟨F0, fp0, s0, r0, Po.up (Same.refl _) p0 fun ev' s' _ z y H4 F' fp' g' r' q' => ?_⟩
        obtain ⟨F5, fp5, s5, e5, r5, q5, g5, p5⟩ := z y H4 F' fp' g' r' q'
        unfold idxK at p5
        split at p5
        · rename_i d1 d2 h1 h2
          split at p5
          · rename_i d hd'
            cases d1 <;> simp only [idxD, reduceCtorEq] at hd'
            · cases d2 <;> simp only [reduceCtorEq] at hd'
              cases str_of r5 (q2.mono g5) h1
              cases str_of r5 q5 h2
              obtain ⟨j, hj, rfl⟩ := Option.map_eq_some_iff.mp hd'
              refine ⟨zz, _, rfl, rfl, fun k hk => ?_, fun hn => by rw [hj] at hn; cases hn⟩
              rw [hj] at hk
              cases hk
              exact Ke.fin p5 r5 rfl rfl
            · obtain ⟨pb, us, e, m2, n2⟩ := Ep.list r5 (q2.mono g5) h1
              cases e
          · exact p5.elim
        · exact p5.elim
      | _ => exact p.elim
theorem upto_rg {K : PySem.W.Frag} {F : Hp} (n : Nat) : RepFs K cA F (upto 0 n) (rgV 0 (n : Nat)) := by
  have key : ∀ l : List Nat, RepFs K cA F (l.map fun (j : Nat) => D.int (0 + j)) (l.map fun (j : Nat) => V.int (0 + (j : Nat))) := fun l => by
    induction l with
    | nil => rfl
    | cons j l ih => exact ⟨_, _, rfl, rfl, ih⟩
  have e : ((n : Int) - 0).toNat = n := by omega
  unfold rgV upto
  rw [e]
  exact key _
theorem se_lrng {p p2 pos2 : Pos} (hc : X.calm = true) (hg : Gl X "list") (hm : X.mg "list" = none) (hg2 : Gl X "range") (hm2 : X.mg "range" = none) (ha : SE X cA W a f) (hs : noStar a = true) : SE X cA W (.Call (.Name "list" p) [.Call (.Name "range" p2) [a] [] pos2] [] pos) (penE f (op1K lrngD)) := by
  refine PE_mono (pe_listRg hc hg hm (prg_1 hg2 hm2 ha (starEach_cons hs)) (starEach_cons rfl)) fun σ H Q h => ?_
  obtain ⟨F, fp, s, r, p⟩ := h
  have z := pen_run (C := fun F => KE X.K cA W F σ Q) (W := W) KE_mono r p
  obtain ⟨F0, fp0, s0, r0, p0⟩ := z
  refine ⟨F0, fp0, s0, r0, Po.up (Same.refl _) p0 fun ev' s' _ z y H4 F' fp' g' r' q' => ?_⟩
  obtain ⟨F5, fp5, s5, e5, r5, q5, g5, p5⟩ := z y H4 F' fp' g' r' q'
  unfold op1K at p5
  split at p5
  · rename_i d hd
    split at p5
    · rename_i d' hd'
      cases d <;> simp only [lrngD, reduceCtorEq] at hd'
      split at hd'
      · rename_i hb
        rw [Bool.and_eq_true] at hb
        have h0 := of_decide_eq_true hb.1
        have h1 := of_decide_eq_true hb.2
        cases hd'
        rename_i n
        obtain ⟨m, rfl⟩ := Int.eq_ofNat_of_zero_le h0
        exact ⟨_, int_of r5 q5 hd, RgOk.of_le (by omega) (by omega) (by omega) (by omega), fun q hq => Ke.list p5 r5 hq (by rw [Int.toNat_natCast]; exact upto_rg m)⟩
      · cases hd'
    · exact p5.elim
  · exact p5.elim
theorem RepFs.rev {K : PySem.W.Frag} {F : Hp} : ∀ {ds : List D} {vs : List V}, RepFs K cA F ds vs → RepFs K cA F ds.reverse vs.reverse
  | [], vs, h => by cases (show vs = [] from h); exact rfl
  | d :: ds, vs, h => by
    obtain ⟨v, r, rfl, h1, h2⟩ := h
    rw [List.reverse_cons, List.reverse_cons]
    exact (RepFs.rev h2).append (RepFs.one h1)
theorem se_rev {k : Nat} {p1 p2 p3 : Pos} (ha : SE X cA W a f) : SE X cA W (.Subscript a (.Slice none none (some (.UnaryOp .USub (.Constant (.int 1) k p1) p2)) p3) pos) (penE f (op1K revD)) := by
  refine PE_mono (pe_revL ha) fun σ H Q h => ?_
  obtain ⟨F, fp, s, r, p⟩ := h
  have z := pen_run (C := fun F => KE X.K cA W F σ Q) (W := W) KE_mono r p
  obtain ⟨F0, fp0, s0, r0, p0⟩ := z
  refine ⟨F0, fp0, s0, r0, Po.up (Same.refl _) p0 fun ev' s' _ z y H4 F' fp' g' r' q' => ?_⟩
  obtain ⟨F5, fp5, s5, e5, r5, q5, g5, p5⟩ := z y H4 F' fp' g' r' q'
  unfold op1K at p5
  split at p5
  · rename_i d hd
    split at p5
    · rename_i d' hd'
      cases d <;> simp only [revD, reduceCtorEq, Option.some.injEq] at hd'
      subst hd'
      obtain ⟨pa, vs, rfl, m, n⟩ := Ep.list r5 q5 hd
      exact ⟨pa, vs, rfl, .of m, fun q hq => Ke.list p5 r5 hq (RepFs.rev n)⟩
    · exact p5.elim
  · exact p5.elim
end
end NS
namespace NS
open PySem PySem.Spec PyProof.Rows L2

/-! ## a dict of the module: texts to numbers -/
def entB (e : DictEntry) : Option (Str × Int) := match e.key, e.val with
  | .str x _, .int i _ => some (x, i)
  | _, _ => none
/-- what stands there -/
structure TabAt (X : Cx) (a : Addr) (tb : List (Str × Int)) : Prop where
  k : ∃ es n, KDict X.K X.w a es n ∧ es.toList.map entB = tb.map some
theorem find_tab {z : Str} : ∀ {es : List DictEntry} {tb : List (Str × Int)}, es.map entB = tb.map some → ∃ u, ((es.find? fun e => Value.isStrOf z e.key).map (·.val)) = u ∧ RelO ((tb.lookup z).map V.int) u
  | [], [], _ => ⟨none, rfl, trivial⟩
  | [], _ :: _, h => by cases h
  | _ :: _, [], h => by cases h
  | e :: es, (x, i) :: tb, h => by
    rw [List.map_cons, List.map_cons] at h
    injection h with h1 h2
    obtain ⟨u, e1, r⟩ := find_tab (z := z) h2
    unfold entB at h1
    split at h1
    · rename_i y ty j tj hk hv
      cases h1
      by_cases hz : x = z
      · subst hz
        refine ⟨some (.int i tj), ?_, ?_⟩
        · rw [List.find?_cons]
          have : Value.isStrOf x e.key = true := by rw [hk]; exact beq_self_eq_true x
          rw [this]
          show some e.val = _
          rw [hv]
        · rw [List.lookup_cons, beq_self_eq_true]
          exact ⟨tj, rfl⟩
      · refine ⟨u, ?_, ?_⟩
        · rw [List.find?_cons]
          have : Value.isStrOf z e.key = false := by
            rw [hk]
            exact beq_eq_false_iff_ne.mpr hz
          rw [this]
          exact e1
        · rw [List.lookup_cons]
          have : (z == x) = false := beq_eq_false_iff_ne.mpr fun q => hz q.symm
          rw [this]
          exact r
    · cases h1
def tgetK (tb : List (Str × Int)) (ea eb : EV) (s : Sl) : R EV := match evR ea s, evR eb s with
  | some (.str z), some (.int i) => .ok (.val (.int ((tb.lookup z).getD i))) s
  | _, _ => .no
def tinK (tb : List (Str × Int)) (ea : EV) (s : Sl) : R Bool := match evR ea s with
  | some (.str z) => .ok (tb.lookup z).isSome s
  | _ => .no
def tgetE (tb : List (Str × Int)) (fa fb : Sl → R EV) : Sl → R EV := bin2 fa fb (tgetK tb)
def tinT (tb : List (Str × Int)) (fa : Sl → R EV) : Sl → R Bool := penE fa (tinK tb)
section
variable {X : Cx} {cA : Nat → Addr} {W : Gx} {e a b c tg : Expr} {es : List Expr} {f g h : Sl → R EV} {pos : Pos} {tb : List (Str × Int)} {t : Addr}
theorem tab_map (T : TabAt X t tb) {pins : List (Addr × Obj)} {σ : L2.St} {H : Hp} {s : Shared} (I : Inv X pins σ H s) : (t == sysModules) = false ∧ ∃ fm, s.heap.MapOf (strKind X.prog X.w) t fm ∧ ∀ z, RelO ((tb.lookup z).map V.int) (fm z) := by
  obtain ⟨es, n, D, h⟩ := T.k
  refine ⟨D.low, _, PySem.W.mapOf_K (prog := X.prog) (w := X.w) I.kIn D.at_ D.lit, fun z => ?_⟩
  obtain ⟨u, e1, r⟩ := find_tab (z := z) h
  unfold findBy
  have e2 : (es.find? fun e => Value.isStrOf z e.key) = es.toList.find? fun e => Value.isStrOf z e.key := by
    obtain ⟨l⟩ := es
    simp
  rw [e2, e1]
  exact r
theorem se_tget {x : Str} {p1 apos cpos : Pos} (hg : Gl X x) (hm : X.mg x = some (.ref t)) (hdb : (x == ("__debug__" : Str)) = false) (T : TabAt X t tb) (ha : SE X cA W a f) (hb : SE X cA W b g) (h1 : noStar a = true) (h2 : noStar b = true) (hline : (apos.endLine == cpos.line) = true) :
    SE X cA W (.Call (.Attribute (.Name x p1) "get" apos) [a, b] [] cpos) (tgetE tb f g) := by
  have hst : starEach [a, b] X.env = [(false, eval a X.env), (false, eval b X.env)] := by rw [starEach_cons h1, starEach_cons h2]; rfl
  have m : M2 X (.Name x p1) "get" apos a b cpos := ⟨rfl, by rw [hst]; rfl, hline, by rw [hst]; rfl⟩
  refine ⟨fun pins s σ H Q I h => ?_⟩
  have z := bin_run (C := fun F => KE X.K cA W F σ Q) KE_mono (k := tgetK tb) h
  refine wpAny_Call_method m.base m.few m.line PySem.F.plainAttrs_dict PySem.F.slot_dict_get PySem.F.type_dict_get (ld_glob I hg hm ?_ hdb)
  obtain ⟨low, fm, hmap, _⟩ := tab_map T I
  refine ⟨hmap.typeIs, hmap.noDict, ?_⟩
  rw [m.trees]
  refine Calls.callWith_builtin rfl (Calls.evalArgs_plain (Calls.spliced_cons (thn (ha.run pins s σ H _ I z) fun iv s2 ⟨y, H2, I2, ry, z2⟩ =>
    Calls.spliced_cons (thn (hb.run pins s2 σ H2 _ I2 z2) fun fv s3 ⟨w, H3, I3, rw, z3⟩ => Calls.spliced_nil ?_))))
  obtain ⟨F, fp, s', e1, e2, r, q1, q2, p⟩ := z3
  unfold tgetK at p
  split at p
  · rename_i zz i k1 k2
    cases str_of r q1 k1
    cases int_of r q2 k2
    obtain ⟨tk, rfl⟩ := ry
    obtain ⟨low, fm, hmap, hf⟩ := tab_map T I3
    refine call_meetsIn PySem.F.slot_dict_get hmap.typeIs PySem.F.entry_dict_get (PySem.F.args_dict_get_3 _ _ _) (meets_dict_get_default (strKind X.prog X.w) t (strKind_is X.prog X.w zz tk) low fv) ⟨_, hmap, ?_⟩
    have hz := hf zz
    refine ⟨.int ((tb.lookup zz).getD i), H3, I3.tok _, ?_, Ke.fin p r rfl rfl⟩
    cases hl : tb.lookup zz with
    | none =>
      rw [hl] at hz
      cases hfz : fm zz with
      | none => exact rw
      | some u => rw [hfz] at hz; exact hz.elim
    | some j =>
      rw [hl] at hz
      cases hfz : fm zz with
      | none => rw [hfz] at hz; exact hz.elim
      | some u => rw [hfz] at hz; exact hz
  · exact p.elim
def rInTab (t : Addr) (tb : List (Str × Int)) : R2 := fun x y H Q => ∃ z, x = .str z ∧ y = .ref t ∧ Q (.bl (tb.lookup z).isSome) H
theorem op_inTab (T : TabAt X t tb) : OpR X (compareOp .In) (rInTab t tb) := by
  intro pins s σ H x y v u Q I rx ry h
  obtain ⟨z, rfl, rfl, q⟩ := h
  obtain ⟨tk, rfl⟩ := rx
  cases ry
  obtain ⟨low, fm, hmap, hf⟩ := tab_map T I
  refine wpAny_in_of (strKind_is X.prog X.w z tk) low hmap ?_
  have hz := hf z
  have e : (fm z).isSome = (tb.lookup z).isSome := by
    cases hl : tb.lookup z <;> cases hfz : fm z <;> rw [hl, hfz] at hz <;> first | rfl | exact hz.elim
  rw [e]
  exact ⟨.bl _, H, I.tok _, rfl, q⟩
theorem st_tin {x : Str} {p1 : Pos} (hg : Gl X x) (hm : X.mg x = some (.ref t)) (hdb : (x == ("__debug__" : Str)) = false) (T : TabAt X t tb) (ha : SE X cA W a f) : ST X cA W (.Compare a [.In] [.Name x p1] pos) (tinT tb f) := by
  refine PT_mono (pt_cmpR (op_inTab T) ha (pe_glob hg hm (v := .ref t) rfl hdb) (behind_no rfl)) fun σ H Q h => ?_
  obtain ⟨F, fp, s, r, p⟩ := h
  have z := pen_run (C := fun F => KT X.K cA W F σ Q) (W := W) KT_mono r p
  obtain ⟨F0, fp0, s0, r0, p0⟩ := z
  refine ⟨F0, fp0, s0, r0, Po.up (Same.refl _) p0 fun ev' s' _ z y H4 F' fp' g' r' q' => ?_⟩
  obtain ⟨F5, fp5, s5, e5, r5, q5, g5, p5⟩ := z y H4 F' fp' g' r' q'
  unfold tinK at p5
  split at p5
  · rename_i zz k1
    exact ⟨zz, str_of r5 q5 k1, rfl, _, rfl, p5 H4 F5 fp5 (Same.refl _) r5⟩
  · exact p5.elim
end
end NS
namespace NS
open PySem PySem.Spec PyProof.Rows L2

/-! ## a written dict of texts -/
def cpairs : List (Option Expr) → List Expr → Option (List (Str × Str))
  | [], [] => some []
  | some (.Constant (.str k) _ _) :: ks, .Constant (.str v) _ _ :: vs => (cpairs ks vs).map ((k, v) :: ·)
  | _, _ => none
def dconD (r : List (Str × Str)) : D := .dct true (dmerge ([], []) (r.map fun q => (Sum.inr q.1, D.str q.2))).1 (dmerge ([], []) (r.map fun q => (Sum.inr q.1, D.str q.2))).2
section
variable {X : Cx} {cA : Nat → Addr} {W : Gx} {pos : Pos}
theorem cpairs_ok : ∀ {ks : List (Option Expr)} {vs : List Expr} {r : List (Str × Str)}, cpairs ks vs = some r → PPs X pos ks vs (r.map fun q => (tC (.str q.1), tC (.str q.2))) ∧ ks.all (·.isSome) = true ∧ ks.length = vs.length ∧ ks.length = r.length
  | [], [], r, h => by cases h; exact ⟨pps_nil, rfl, rfl, rfl⟩
  | [], _ :: _, r, h => by simp [cpairs] at h
  | k :: ks, vs, r, h => by
    unfold cpairs at h
    split at h
    · rename_i e; cases e
    · rename_i k2 a b ks2 v2 c d vs2 e
      cases e
      obtain ⟨r', hr, rfl⟩ := Option.map_eq_some_iff.mp h
      obtain ⟨h1, h2, h3, h4⟩ := cpairs_ok hr
      exact ⟨pps_cons pe_str pe_str h1, by rw [List.all_cons, h2]; rfl, by simp [h3], by simp [h4]⟩
    · cases h
theorem tPairs_con {σ : L2.St} {H : Hp} {Q : List (V × V) → Hp → Prop} : ∀ {r : List (Str × Str)}, Q (r.map fun q => (V.str q.1, V.str q.2)) H → tPairs (r.map fun q => (tC (.str q.1), tC (.str q.2))) σ H Q
  | [], h => h
  | q :: r, h => tPairs_con (Q := fun ps H3 => Q ((V.str q.1, V.str q.2) :: ps) H3) (r := r) h
theorem zip_con : ∀ r : List (Str × Str), ((r.map fun q => ((Sum.inr q.1 : Key), D.str q.2)).map (·.1)).zip (r.map fun q => V.str q.2) = r.map fun q => ((Sum.inr q.1 : Key), V.str q.2)
  | [] => rfl
  | x :: l => by rw [List.map_cons, List.map_cons, List.map_cons, List.map_cons, List.zip_cons_cons, zip_con l]
theorem se_dcon {ks : List (Option Expr)} {vs : List Expr} {r : List (Str × Str)} (h : cpairs ks vs = some r) (h0 : r.isEmpty = false) (h15 : Nat.ble r.length 15 = true) : SE X cA W (.Dict ks vs pos) (constE (dconD r)) := by
  obtain ⟨h1, h2, h3, h4⟩ := cpairs_ok (X := X) (pos := pos) h
  have hl := Nat.le_of_ble_eq_true h15
  refine PE_mono (pe_disp h1 h2 h3 (fun z => by subst z; cases r with | nil => cases h0 | cons => simp at h4) (by omega)) fun σ H Q q => ?_
  obtain ⟨F, fp, s, rl, p⟩ := q
  intro a ha
  refine tPairs_con ⟨upd_same, (r.map fun q => (Sum.inr q.1, V.str q.2)), by rw [List.map_map]; rfl, by simpa using hl, ?_⟩
  rw [upd_upd]
  have q1 : ∀ l : List (Str × Str), RepFs X.K cA F ((l.map fun q => ((Sum.inr q.1 : Key), D.str q.2)).map (·.2)) (l.map fun q => V.str q.2) := fun l => by
    induction l with
    | nil => rfl
    | cons x l ih => exact ⟨_, _, rfl, rfl, ih⟩
  obtain ⟨us, e1, e2, e3⟩ := dmerge_ok (r := r.map fun q => ((Sum.inr q.1 : Key), D.str q.2)) (ks := []) (xs := []) (vs := []) (q1 r) rfl rfl
  have e0 := zip_con r
  rw [e0] at e1
  have e1 : mergeK [] (r.map fun q => ((Sum.inr q.1 : Key), V.str q.2)) = _ := e1
  rw [e1]
  exact Ke.dct p rl ha e2 e3
end
end NS
namespace NS
open PySem PySem.Spec PyProof.Rows L2

/-! ## sorted(ints) -/
section
variable {prog : Program} {w : World} {A : Around} {E : Value → Shared → Prop} {s : Shared}
theorem collect_tup {l : Addr} {vs : List Value} {Q : List Value → Shared → Prop} (hl : IsTup s.heap l vs.toArray)
    (h : Q vs { s with heap := (s.heap.push (seqObj "list" #[] 0)).update s.heap.objs.size (Obj.mapSeq (· ++ vs.toArray)) }) (hsz : vs.length ≤ sizeLine) :
    wpAny (model prog w) A (collect (.ref l)) Q E s := by
  obtain ⟨o, ho, hc, n, hd⟩ := id hl
  unfold collect
  refine wpAny_bind (wpAny_runValue (codeAny_builtin PyProof.Rows.entry_proto_collect' ?_))
  show wpAny _ _ (do again (.builtin "list.__iadd__" ⟨[← newList [], .ref l], []⟩)) _ _ s
  refine wpAny_bind (wpAny_newList (wpAny_pure ⟨Code.quiet_builtin _ (by decide +kernel), codeAny_builtin PyProof.Rows.entry_list_iadd' ?_⟩))
  show wpAny _ _ (Builtin.List.listExtendWith (.ref s.heap.objs.size) (.ref l) (.ref s.heap.objs.size)) _ _ { s with heap := s.heap.push (seqObj "list" #[] 0) }
  unfold Builtin.List.listExtendWith
  have ho' : (s.heap.push (seqObj "list" #[] 0)).get? l = some o := Heap.get?_push_of_some _ ho
  refine wpAny_bind (wpAny_typeOf (T := "tuple") ⟨o, ho', hc⟩ ?_)
  have ht : (Value.type "tuple" == Value.type "tuple") = true := by rfl
  rw [if_pos (by rw [ht]; simp)]
  refine wpAny_bind (PyProof.Rows.listItems_at ho' hd ?_)
  refine wpAny_bind (PyProof.Rows.listItems_at (xs := #[]) (n := 0) (Heap.get?_push_size _ rfl) rfl ?_)
  rw [if_neg (by simp)]
  refine wpAny_bind (PyProof.Rows.listUpdate_at (xs := #[]) (n := 0) (Heap.get?_push_size _ rfl) rfl ?_ (Nat.zero_le _) (by show (#[] ++ vs.toArray).size ≤ sizeLine + 1; simp only [Array.size_append, List.size_toArray, List.length_nil]; omega))
  refine wpAny_pure ?_
  show wpAny (model prog w) A (do
      let o ← load s.heap.objs.size
      match o.data with
      | .seq xs _ => pure xs.toList
      | _ => unsupported "internal:collect") Q E { s with heap := (s.heap.push (seqObj "list" #[] 0)).update s.heap.objs.size (Obj.mapSeq (· ++ vs.toArray)) }
  refine wpAny_bind (wpAny_load (PyProof.Rows.get?_update_seq (Heap.get?_push_size _ rfl) _) ?_)
  show wpAny _ _ (pure ((#[] : Array Value) ++ vs.toArray).toList) Q E _
  rw [show ((#[] : Array Value) ++ vs.toArray).toList = vs by simp]
  exact wpAny_pure h
theorem sorted_tup {l : Addr} {vs : List Value} {ltv : Value → Value → Bool} {Q : Value → Shared → Prop} (O : SrtO.Swo ltv) (hl : IsTup s.heap l vs.toArray) (hz : vs.length ≤ sizeLine)
    (hS : 2 ≤ vs.length → ∀ (h₁ : Heap) (a : Addr), h₁.get? a = some (seqObj "list" vs.toArray 0) → (∀ b o, s.heap.get? b = some o → b ≠ a ∧ h₁.get? b = some o) → SrtO.SortableO prog w A.in1.in1 { s with heap := h₁ } a vs ltv)
    (h : ∀ out : List Value, SrtO.Srtd ltv out → SrtO.Stb ltv out vs → Q (.ref (s.heap.objs.size + 1)) { s with heap := sortedAll s.heap vs out.toArray }) :
    wpAny (model prog w) A (call (.builtin "sorted") [.ref l]) Q E s := by
  refine Calls.call_function_entry PyProof.Rows.kind_sorted PyProof.Rows.plain_sorted PyProof.Rows.entry_sorted (PyProof.Rows.args_sorted1 _) ?_
  unfold Builtin.«sorted»
  refine wpAny_bind (m := checkCount "sorted" 1 1 _) (wpAny_pure ?_)
  refine wpAny_bind (collect_tup hl ?_ hz)
  refine wpAny_bind (wpAny_newList ?_ hz)
  have hsz : ((s.heap.push (seqObj "list" #[] 0)).update s.heap.objs.size (Obj.mapSeq (· ++ vs.toArray))).objs.size = s.heap.objs.size + 1 := by
    rw [Heap.size_update, PyProof.Rows.size_push']
  have hoL : (((s.heap.push (seqObj "list" #[] 0)).update s.heap.objs.size (Obj.mapSeq (· ++ vs.toArray))).push (seqObj "list" vs.toArray 0)).get? (s.heap.objs.size + 1) = some (seqObj "list" vs.toArray 0) := by
    rw [← hsz]; exact Heap.get?_push_size _ rfl
  have keep : ∀ b o, s.heap.get? b = some o → b ≠ s.heap.objs.size + 1 ∧ (((s.heap.push (seqObj "list" #[] 0)).update s.heap.objs.size (Obj.mapSeq (· ++ vs.toArray))).push (seqObj "list" vs.toArray 0)).get? b = some o := fun b o q => by
    have hlt : b < s.heap.objs.size := Heap.lt_size q
    refine ⟨Nat.ne_of_lt (Nat.lt_succ_of_lt hlt), Heap.get?_push_of_some _ ?_⟩
    rw [Heap.get?_update_ne _ _ _ _ (Nat.ne_of_lt hlt)]
    exact Heap.get?_push_of_some _ q
  show wpAny _ _ _ _ _ { s with heap := ((s.heap.push (seqObj "list" #[] 0)).update s.heap.objs.size (Obj.mapSeq (· ++ vs.toArray))).push (seqObj "list" vs.toArray 0) }
  rw [hsz]
  refine wpAny_bind (wpAny_holding (wpAny_call_entry PyProof.Rows.slot_list_sort ⟨_, hoL, rfl⟩ PyProof.Rows.entry_list_sort (SrtO.list_sort_ord O hoL hz (fun h2 => hS h2 _ _ hoL keep) fun out hs hb => ⟨_, rfl, ?_⟩) (PyProof.Rows.args_list_sort _)))
  exact wpAny_pure ⟨_, rfl, h out hs hb⟩
end
def rSortedIT (K : PySem.W.Frag) : List V → Hp → VK → Prop := fun vs H Q => ∃ (a : Addr) (ns : List Int), vs = [V.ref a] ∧ SqT K H a (ns.map V.int) ∧
  ∀ (ns' : List Int) (p : Addr), ns'.Perm ns → ns'.Pairwise (· ≤ ·) → H p = none → Q (.ref p) (upd H p (.lst (ns'.map V.int)))
theorem cr_sortedIT {X : Cx} : CallR X (.builtin "sorted") (rSortedIT X.K) := by
  intro pins s σ H vs us Q I r h
  obtain ⟨a, ns, rfl, hs, q⟩ := h
  obtain ⟨its, rv, hl, hz⟩ := I.tuple hs
  rw [Vals.ref1 r]
  have hi := rv.ints
  refine sorted_tup SrtO.swo_int hl (by rw [← rv.length]; exact hz) (fun h2 h₁ a' _ _ => SrtO.ints_sortable hi h2) fun out h1 h2 => ?_
  obtain ⟨k1, k2, k3⟩ := SrtO.ints_out hi h1 h2
  obtain ⟨ep, he'⟩ := PyProof.Rows.sortedAll_at s.heap its out.toArray
  have hlen : ((out.map SrtO.iv).map V.int).length ≤ sizeLine := by
    rw [List.length_map, k2.length_eq]
    rw [List.length_map] at hz
    exact hz
  exact ⟨.ref _, upd H (s.heap.objs.size + 1) (.lst ((out.map SrtO.iv).map V.int)), I.laid (t' := s.toks) (fun _ _ => PyProof.Rows.sortedAll_old) (Nat.le_succ _) ⟨hlen, out, ep, vals_of_ints k1, he'⟩, rfl, q _ _ k2 k3 (I.hok.fresh (Nat.le_succ _))⟩
/-- insertion -/
def insI (n : Int) : List Int → List Int
  | [] => [n]
  | m :: ms => if n ≤ m then n :: m :: ms else m :: insI n ms
def srtI : List Int → List Int
  | [] => []
  | n :: ns => insI n (srtI ns)
theorem insI_perm (n : Int) : ∀ ms : List Int, (insI n ms).Perm (n :: ms)
  | [] => .refl _
  | m :: ms => by
    rw [insI]
    split
    · exact .refl _
    · exact ((insI_perm n ms).cons m).trans (.swap _ _ _)
theorem srtI_perm : ∀ ns : List Int, (srtI ns).Perm ns
  | [] => .refl _
  | n :: ns => (insI_perm n _).trans ((srtI_perm ns).cons n)
theorem insI_pw (n : Int) : ∀ {ms : List Int}, ms.Pairwise (· ≤ ·) → (insI n ms).Pairwise (· ≤ ·)
  | [], _ => by simp [insI]
  | m :: ms, h => by
    have h1 := List.pairwise_cons.mp h
    rw [insI]
    split
    · rename_i hle
      refine List.pairwise_cons.mpr ⟨fun x hx => ?_, h⟩
      rcases List.mem_cons.mp hx with rfl | hx
      · exact hle
      · exact Int.le_trans hle (h1.1 x hx)
    · rename_i hle
      refine List.pairwise_cons.mpr ⟨fun x hx => ?_, insI_pw n h1.2⟩
      rcases List.mem_cons.mp ((insI_perm n ms).mem_iff.mp hx) with rfl | hx
      · omega
      · exact h1.1 x hx
theorem srtI_pw : ∀ ns : List Int, (srtI ns).Pairwise (· ≤ ·)
  | [] => .nil
  | n :: ns => insI_pw n (srtI_pw ns)
theorem pw_unique : ∀ {xs ys : List Int}, xs.Perm ys → xs.Pairwise (· ≤ ·) → ys.Pairwise (· ≤ ·) → xs = ys
  | [], ys, h, _, _ => (List.nil_perm.mp h).symm
  | x :: xs, [], h, _, _ => by simpa using h.length_eq
  | x :: xs, y :: ys, h, h1, h2 => by
    have a1 := List.pairwise_cons.mp h1
    have a2 := List.pairwise_cons.mp h2
    have e : x = y := by
      have m1 : x ∈ y :: ys := h.mem_iff.mp (by simp)
      have m2 : y ∈ x :: xs := h.mem_iff.mpr (by simp)
      have b1 : y ≤ x := by
        rcases List.mem_cons.mp m1 with rfl | m1
        · exact Int.le_refl _
        · exact a2.1 x m1
      have b2 : x ≤ y := by
        rcases List.mem_cons.mp m2 with rfl | m2
        · exact Int.le_refl _
        · exact a1.1 y m2
      exact Int.le_antisymm b2 b1
    subst e
    rw [pw_unique (List.perm_cons x |>.mp h) a1.2 a2.2]
theorem srtI_eq {ns ms : List Int} (h : ms.Perm ns) (h2 : ms.Pairwise (· ≤ ·)) : ms = srtI ns := pw_unique (h.trans (srtI_perm ns).symm) h2 (srtI_pw ns)
def sortedOp : List D → Option D
  | [.lst _ xs] => (dints xs).map fun ns => .lst true ((srtI ns).map .int)
  | [.tup xs] => (dints xs).map fun ns => .lst true ((srtI ns).map .int)
  | _ => none
section
variable {X : Cx} {cA : Nat → Addr} {W : Gx} {e a b c : Expr} {es : List Expr} {f g h : Sl → R EV} {pos : Pos}
theorem repf_ints {K : PySem.W.Frag} {F : Hp} : ∀ ns : List Int, RepFs K cA F (ns.map .int) (ns.map V.int)
  | [] => rfl
  | n :: ns => ⟨_, _, rfl, rfl, repf_ints ns⟩
theorem sorted_ok : CallOk X cA W sortedOp (fun xs H Q => rSortedI X.K xs H Q ∨ rSortedIT X.K xs H Q) := by
  intro F fp s σ H es ds d vs Q r q hd ho k
  rcases ds with _ | ⟨d1, _ | ⟨d2, ds⟩⟩
  · cases ho
  · obtain ⟨v, ev, rfl, rfl, q1, h1⟩ := q.one hd
    cases d1 <;> simp only [sortedOp, reduceCtorEq, Option.some.injEq] at ho
    · obtain ⟨ns, hn, rfl⟩ := Option.map_eq_some_iff.mp ho
      obtain ⟨a, vs, rfl, m, n⟩ := Ep.flat r q1 h1 rfl
      cases dints_ok hn n
      refine .inr ⟨a, ns, rfl, SqT_mono m r.fz, fun ns' p hp hs hn0 => ?_⟩
      rw [srtI_eq hp hs]
      exact Ke.list k r hn0 (repf_ints _)
    · obtain ⟨ns, hn, rfl⟩ := Option.map_eq_some_iff.mp ho
      obtain ⟨a, vs, rfl, m, n⟩ := Ep.list r q1 h1
      cases dints_ok hn n
      refine .inl ⟨a, ns, rfl, .of m, fun ns' p hp hs hn0 => ?_⟩
      rw [srtI_eq hp hs]
      exact Ke.list k r hn0 (repf_ints _)
  · simp only [sortedOp, reduceCtorEq] at ho
theorem se_sorted {p : Pos} {fs : List (Sl → R EV)} (hg : Gl X "sorted") (hm : X.mg "sorted" = none) (ha : SA X cA W (e :: es) (argsE fs)) (hs : (e :: es).all noStar = true) : SE X cA W (.Call (.Name "sorted" p) (e :: es) [] pos) (bltE sortedOp fs) :=
  se_callB (id := "sorted") (cr_sortedI.or cr_sortedIT) sorted_ok hg hm (by decide +kernel) ha (by decide) (by decide) hs
end
end NS
namespace NS
open PySem PySem.Spec PyProof.Rows L2 RZ
/-! ## list(zip(a, b)) of two tuples -/
section
variable {prog : Program} {w : World} {A : Around} {E : Value → Shared → Prop} {s : Shared}
theorem zt_item_held {z TI TO T i1 i2 l1 l2 : Addr} {f : Bool} {oT : Obj} {k1 k2 : Nat} {xs ys : Array Value} {x y : Value} {Q : Value → Shared → Prop} (D : ZipApart z TI TO i1 i2 l1 l2)
    (hz : IsZipHeld s.heap z TI TO T f) (hT : s.heap.get? T = some oT) (hTI : PySem.IsPair s.heap TI (.ref i1) (.ref i2))
    (h1 : s.heap.IsTupleIter i1 l1 k1) (h2 : s.heap.IsTupleIter i2 l2 k2) (hl1 : s.heap.IsTuple l1 xs) (hl2 : s.heap.IsTuple l2 ys) (hx : xs[k1]? = some x) (hy : ys[k2]? = some y)
    (hQ : ∀ h', IsZipHeld h' z TI TO T true → h'.IsTupleIter i1 l1 (k1 + 1) → h'.IsTupleIter i2 l2 (k2 + 1) → PySem.IsPair h' s.heap.objs.size x y → h'.objs.size = s.heap.objs.size + 1 →
      (∀ c o, c ≠ z → c ≠ i1 → c ≠ i2 → s.heap.get? c = some o → h'.get? c = some o) → Q (.ref s.heap.objs.size) { s with heap := h' }) :
    wpAny (model prog w) A (Builtin.«zip.__next__» ⟨[.ref z], []⟩) (fun fin s' => ∃ v, fin = .done (.ret v) ∧ Q v s') E s := by
  show wpAny _ _ (field (.ref z) 2 >>= _) _ _ _
  refine wpAny_bind (wpAny_field hz rfl (x := .bool false) rfl ?_)
  show wpAny _ _ (field (.ref z) 3 >>= _) _ _ _
  refine wpAny_bind (wpAny_field hz rfl (x := .ref TI) rfl ?_)
  refine wpAny_bind (wpAny_seqItems hTI rfl ?_)
  show wpAny _ _ (Builtin.SmallTypes.ownedTupleIsFree (.ref z) >>= _) _ _ _
  refine wpAny_bind (wpAny_tupleHeld_zip hz hT fun h₁ hz₁ hs₁ => ?_)
  simp only [Bool.false_eq_true, if_false]
  refine wpAny_bind ?_
  rw [← Array.forIn_toList]
  simp only [List.forIn_cons, List.forIn_nil]
  refine wpAny_bind (wpAny_bind (wpAny_holding ?_))
  show wpAny _ _ (Builtin.SmallTypes.nextOf (.ref i1) >>= _) _ _ _
  refine wpAny_bind (nextOf_tuple_item (s := { s with heap := h₁ }) (h1.extBut hs₁.extBut D.i1z) (hl1.extBut hs₁.extBut D.l1z) hx fun h₂ h1₂ hs₂ => wpAny_pure ?_)
  refine wpAny_pure ?_
  refine wpAny_bind (wpAny_bind (wpAny_holding ?_))
  show wpAny _ _ (Builtin.SmallTypes.nextOf (.ref i2) >>= _) _ _ _
  refine wpAny_bind (nextOf_tuple_item (s := { s with heap := h₂ }) ((h2.extBut hs₁.extBut D.i2z).extBut hs₂.extBut D.i12.symm) ((hl2.extBut hs₁.extBut D.l2z).extBut hs₂.extBut D.l2i1) hy fun h₃ h2₃ hs₃ => wpAny_pure ?_)
  refine wpAny_pure (wpAny_pure ?_)
  show wpAny _ _ (newTuple [x, y] >>= _) _ _ _
  refine wpAny_bind (wpAny_newTuple ?_)
  have hsz : h₃.objs.size = s.heap.objs.size := by rw [hs₃.1, hs₂.1, hs₁.1]
  have hz₃ : IsZipHeld h₃ z TI TO T true := hs₃.extBut _ _ D.i2z.symm (hs₂.extBut _ _ D.i1z.symm hz₁)
  have hk : ∀ c o, c ≠ z → c ≠ i1 → c ≠ i2 → s.heap.get? c = some o → h₃.get? c = some o := fun c o c1 c2 c3 e => hs₃.extBut _ _ c3 (hs₂.extBut _ _ c2 (hs₁.extBut _ _ c1 e))
  have h1₃ : h₃.IsTupleIter i1 l1 (k1 + 1) := h1₂.extBut hs₃.extBut D.i12
  refine wpAny_pure ⟨_, rfl, ?_⟩
  show Q (.ref h₃.objs.size) _
  have hp : PySem.IsPair (h₃.push { cls := .type "tuple", data := .seq #[x, y] }) h₃.objs.size x y := Heap.get?_push_size _ rfl
  have hz4 : (h₃.push { cls := .type "tuple", data := .seq #[x, y] }).objs.size = h₃.objs.size + 1 := Heap.size_push ..
  rw [hsz] at hp hz4 ⊢
  exact hQ _ (Heap.get?_push_of_some _ hz₃) (h1₃.at fun o e => Heap.get?_push_of_some _ e) (h2₃.at fun o e => Heap.get?_push_of_some _ e) hp hz4 fun c o c1 c2 c3 e => Heap.get?_push_of_some _ (hk c o c1 c2 c3 e)
theorem zt_end_held {z TI TO T i1 i2 l1 l2 : Addr} {f : Bool} {oT : Obj} {k1 k2 : Nat} {xs ys : Array Value} {Q : Fin → Shared → Prop} (hh : A.handled = none) (D : ZipApart z TI TO i1 i2 l1 l2)
    (hz : IsZipHeld s.heap z TI TO T f) (hT : s.heap.get? T = some oT) (hTI : PySem.IsPair s.heap TI (.ref i1) (.ref i2))
    (h1 : s.heap.IsTupleIter i1 l1 k1) (h2 : s.heap.IsTupleIter i2 l2 k2) (hl1 : s.heap.IsTuple l1 xs) (hl2 : s.heap.IsTuple l2 ys) (hend : xs[k1]? = none ∨ ys[k2]? = none)
    (hE : ∀ h' e, (∀ c o, c ≠ z → c ≠ i1 → c ≠ i2 → s.heap.get? c = some o → h'.get? c = some o) → (∃ o, h'.get? e = some o ∧ o.cls = .type "StopIteration") → E (.ref e) { s with heap := h' }) :
    wpAny (model prog w) A (Builtin.«zip.__next__» ⟨[.ref z], []⟩) Q E s := by
  show wpAny _ _ (field (.ref z) 2 >>= _) _ _ _
  refine wpAny_bind (wpAny_field hz rfl (x := .bool false) rfl ?_)
  show wpAny _ _ (field (.ref z) 3 >>= _) _ _ _
  refine wpAny_bind (wpAny_field hz rfl (x := .ref TI) rfl ?_)
  refine wpAny_bind (wpAny_seqItems hTI rfl ?_)
  show wpAny _ _ (Builtin.SmallTypes.ownedTupleIsFree (.ref z) >>= _) _ _ _
  refine wpAny_bind (wpAny_tupleHeld_zip hz hT fun h₁ hz₁ hs₁ => ?_)
  simp only [Bool.false_eq_true, if_false]
  refine wpAny_bind ?_
  rw [← Array.forIn_toList]
  simp only [List.forIn_cons, List.forIn_nil]
  refine wpAny_bind (wpAny_bind (wpAny_holding ?_))
  show wpAny _ _ (Builtin.SmallTypes.nextOf (.ref i1) >>= _) _ _ _
  cases hx : xs[k1]? with
  | none =>
    refine wpAny_bind (nextOf_tuple_end (s := { s with heap := h₁ }) hh (h1.extBut hs₁.extBut D.i1z) (hl1.extBut hs₁.extBut D.l1z) hx fun h₂ e hs₂ he => ?_)
    exact hE h₂ e (fun c o c1 c2 _ x => hs₂ _ _ c2 (hs₁.extBut _ _ c1 x)) he
  | some x =>
    have hy : ys[k2]? = none := by rcases hend with h | h; rw [hx] at h; cases h; exact h
    refine wpAny_bind (nextOf_tuple_item (s := { s with heap := h₁ }) (h1.extBut hs₁.extBut D.i1z) (hl1.extBut hs₁.extBut D.l1z) hx fun h₂ h1₂ hs₂ => wpAny_pure ?_)
    refine wpAny_pure ?_
    refine wpAny_bind (wpAny_bind (wpAny_holding ?_))
    show wpAny _ _ (Builtin.SmallTypes.nextOf (.ref i2) >>= _) _ _ _
    refine wpAny_bind (nextOf_tuple_end (s := { s with heap := h₂ }) hh ((h2.extBut hs₁.extBut D.i2z).extBut hs₂.extBut D.i12.symm) ((hl2.extBut hs₁.extBut D.l2z).extBut hs₂.extBut D.l2i1) hy fun h₃ e hs₃ he => ?_)
    exact hE h₃ e (fun c o c1 c2 c3 x => hs₃ _ _ c3 (hs₂.extBut _ _ c2 (hs₁.extBut _ _ c1 x))) he
theorem nx_item_held {z TI TO T i1 i2 l1 l2 : Addr} {f : Bool} {oT : Obj} {k1 k2 : Nat} {xs ys : Array Value} {x y : Value} {Q : Option Value → Shared → Prop} (D : ZipApart z TI TO i1 i2 l1 l2)
    (hz : IsZipHeld s.heap z TI TO T f) (hT : s.heap.get? T = some oT) (hTI : PySem.IsPair s.heap TI (.ref i1) (.ref i2))
    (h1 : s.heap.IsTupleIter i1 l1 k1) (h2 : s.heap.IsTupleIter i2 l2 k2) (hl1 : s.heap.IsTuple l1 xs) (hl2 : s.heap.IsTuple l2 ys) (hx : xs[k1]? = some x) (hy : ys[k2]? = some y)
    (hQ : ∀ h', IsZipHeld h' z TI TO T true → h'.IsTupleIter i1 l1 (k1 + 1) → h'.IsTupleIter i2 l2 (k2 + 1) → PySem.IsPair h' s.heap.objs.size x y → h'.objs.size = s.heap.objs.size + 1 →
      (∀ c o, c ≠ z → c ≠ i1 → c ≠ i2 → s.heap.get? c = some o → h'.get? c = some o) → Q (some (.ref s.heap.objs.size)) { s with heap := h' }) :
    wpAny (model prog w) A (pyNext (.ref z)) Q E s := by
  have hTy : s.TypeIs (.ref z) "zip" := ⟨_, hz, rfl⟩
  unfold pyNext
  exact wpAny_bind (wpAny_attempt (wpAny_callSpecial?_slot (name := Str.ofString "__next__") hTy F.slot_zip_next
    (wpAny_call_entry F.slot_zip_next hTy F.entry_zip_next
      (zt_item_held D hz hT hTI h1 h2 hl1 hl2 hx hy fun h' a1 a3 a4 a5 a6 a7 => wpAny_pure (hQ h' a1 a3 a4 a5 a6 a7)) (F.args_zip_next_1 _))))
theorem nx_end_held {z TI TO T i1 i2 l1 l2 : Addr} {f : Bool} {oT : Obj} {k1 k2 : Nat} {xs ys : Array Value} {Q : Option Value → Shared → Prop} (hh : A.handled = none) (D : ZipApart z TI TO i1 i2 l1 l2)
    (hz : IsZipHeld s.heap z TI TO T f) (hT : s.heap.get? T = some oT) (hTI : PySem.IsPair s.heap TI (.ref i1) (.ref i2))
    (h1 : s.heap.IsTupleIter i1 l1 k1) (h2 : s.heap.IsTupleIter i2 l2 k2) (hl1 : s.heap.IsTuple l1 xs) (hl2 : s.heap.IsTuple l2 ys) (hend : xs[k1]? = none ∨ ys[k2]? = none)
    (hQ : ∀ h', (∀ c o, c ≠ z → c ≠ i1 → c ≠ i2 → s.heap.get? c = some o → h'.get? c = some o) → Q none { s with heap := h' }) : wpAny (model prog w) A (pyNext (.ref z)) Q E s := by
  have hTy : s.TypeIs (.ref z) "zip" := ⟨_, hz, rfl⟩
  unfold pyNext
  refine wpAny_bind (wpAny_attempt (wpAny_callSpecial?_slot (name := Str.ofString "__next__") hTy F.slot_zip_next
    (wpAny_call_entry F.slot_zip_next hTy F.entry_zip_next (zt_end_held hh D hz hT hTI h1 h2 hl1 hl2 hend fun h' e hk he => ?_) (F.args_zip_next_1 _))))
  obtain ⟨o, ho, hc⟩ := he
  refine wpAny_bind (wpAny_isInstance (T := "StopIteration") (b := true) ⟨o, ho, hc⟩ isSubtype_stop ?_)
  exact wpAny_pure (hQ _ hk)
end
/-- a zip over two tuples, k turns on, while the list S is built -/
structure ZSt (h : Heap) (z TI TO i1 i2 l1 l2 : Addr) (xs ys : Array Value) (k : Nat) (S : Addr) : Prop where
  hTI : PySem.IsPair h TI (.ref i1) (.ref i2)
  h1 : h.IsTupleIter i1 l1 k
  h2 : h.IsTupleIter i2 l2 k
  hl1 : h.IsTuple l1 xs
  hl2 : h.IsTuple l2 ys
  flag : (IsZip h z TI TO .none ∧ ∃ a b, PySem.IsPair h TO a b) ∨ ∃ T f oT, IsZipHeld h z TI TO T f ∧ h.get? T = some oT ∧ T ≠ z ∧ T ≠ i1 ∧ T ≠ i2 ∧ T ≠ S
/-- the pairs so far -/
structure ZDn (h : Heap) (xs ys : Array Value) (Ts : List Addr) (acc : Array Value) (i B : Nat) : Prop where
  len : Ts.length = i
  acc : acc = (Ts.map Value.ref).toArray
  at' : ∀ (j : Nat) (T : Addr), Ts[j]? = some T → ∃ x y, xs[j]? = some x ∧ ys[j]? = some y ∧ PySem.IsPair h T x y
  lo : ∀ T ∈ Ts, B ≤ T
  lt : ∀ T ∈ Ts, T < h.objs.size
  pw : Ts.Pairwise (· < ·)
/-- S lies apart -/
structure ZAp (S z TI TO i1 i2 l1 l2 : Addr) : Prop where
  z : S ≠ z
  TI : S ≠ TI
  TO : S ≠ TO
  i1 : S ≠ i1
  i2 : S ≠ i2
  l1 : S ≠ l1
  l2 : S ≠ l2
theorem neB {B : Nat} {T x : Addr} (h1 : B ≤ T) (h2 : x < B) : T ≠ x := Nat.ne_of_gt (Nat.lt_of_lt_of_le h2 h1)
theorem ZSt.frame {h h' : Heap} {z TI TO i1 i2 l1 l2 S : Addr} {xs ys : Array Value} {k : Nat} (st : ZSt h z TI TO i1 i2 l1 l2 xs ys k S) (P : ZAp S z TI TO i1 i2 l1 l2) (hk : ∀ b o, b ≠ S → h.get? b = some o → h'.get? b = some o) : ZSt h' z TI TO i1 i2 l1 l2 xs ys k S where
  hTI := hk _ _ P.TI.symm st.hTI
  h1 := st.h1.at fun o e => hk _ o P.i1.symm e
  h2 := st.h2.at fun o e => hk _ o P.i2.symm e
  hl1 := st.hl1.at fun o e => hk _ o P.l1.symm e
  hl2 := st.hl2.at fun o e => hk _ o P.l2.symm e
  flag := by
    rcases st.flag with ⟨hz, a, b, hTO⟩ | ⟨T, f, oT, hz, hT, r1, r2, r3, r4⟩
    · exact .inl ⟨hk _ _ P.z.symm hz, a, b, hk _ _ P.TO.symm hTO⟩
    · exact .inr ⟨T, f, oT, hk _ _ P.z.symm hz, hk _ _ r4 hT, r1, r2, r3, r4⟩
section
variable {prog : Program} {w : World} {A : Around} {R : Result → Shared → Prop}
theorem loopZ (hh : A.in1.handled = none) {z TI TO i1 i2 l1 l2 S : Addr} (D : ZipApart z TI TO i1 i2 l1 l2) (P : ZAp S z TI TO i1 i2 l1 l2) {xs ys : Array Value} (hn : min xs.size ys.size ≤ sizeLine) {B : Nat} (hB : S < B ∧ z < B ∧ TO < B ∧ i1 < B ∧ i2 < B) (res : Value) :
    ∀ (k i : Nat) (s : Shared) (acc : Array Value) (c : Nat) (Ts : List Addr), min xs.size ys.size - i = k → i ≤ min xs.size ys.size → B ≤ s.heap.objs.size → ZSt s.heap z TI TO i1 i2 l1 l2 xs ys i S → s.heap.get? S = some { cls := .type "list", dict := none, data := .seq acc c, slots := #[] } → ZDn s.heap xs ys Ts acc i B →
    (∀ h' acc' c' Ts', (∀ b o, b ≠ S → b ≠ z → b ≠ TO → b ≠ i1 → b ≠ i2 → s.heap.get? b = some o → h'.get? b = some o) → h'.get? S = some { cls := .type "list", dict := none, data := .seq acc' c', slots := #[] } → ZDn h' xs ys Ts' acc' (min xs.size ys.size) B → R (.ok (.ret res)) { s with heap := h' }) →
    codeAny (model prog w) A (.builtin "list.extend.loop" ⟨[.ref S, .ref z, res], []⟩) R s := by
  intro k
  induction k with
  | zero =>
    intro i s acc c Ts hk hi hB2 st hS dn hR
    have hin : i = min xs.size ys.size := by omega
    refine codeAny_builtin F.entry_extend_loop ?_
    rw [Around.under_plainId F.plain_extend_loop _]
    show wpAny _ A.in1 (pyNext (.ref z) >>= _) _ _ s
    have hend : xs[i]? = none ∨ ys[i]? = none := by
      rcases Nat.le_total xs.size ys.size with h | h
      · exact .inl (Array.getElem?_eq_none (by rw [Nat.min_eq_left h] at hin; omega))
      · exact .inr (Array.getElem?_eq_none (by rw [Nat.min_eq_right h] at hin; omega))
    have up : ∀ h' : Heap, (∀ b o, b ≠ z → b ≠ TO → b ≠ i1 → b ≠ i2 → s.heap.get? b = some o → h'.get? b = some o) → R (.ok (.ret res)) { s with heap := h' } := fun h' hk2 => by
      have kT : ∀ T ∈ Ts, ∀ o, s.heap.get? T = some o → h'.get? T = some o := fun T hT o e => by
        have hl := dn.lo T hT
        exact hk2 T o (neB hl hB.2.1) (neB hl hB.2.2.1) (neB hl hB.2.2.2.1) (neB hl hB.2.2.2.2) e
      refine hR h' acc c Ts (fun b o _ b1 b2 b3 b4 e => hk2 b o b1 b2 b3 b4 e) (hk2 S _ P.z P.TO P.i1 P.i2 hS) ⟨by rw [dn.len]; exact hin, dn.acc, fun j T hT => ?_, dn.lo, fun T hT => ?_, dn.pw⟩
      · obtain ⟨x, y, hx, hy, e⟩ := dn.at' j T hT
        exact ⟨x, y, hx, hy, kT T (List.mem_of_getElem? hT) _ e⟩
      · obtain ⟨j, hj⟩ := List.mem_iff_getElem?.mp hT
        obtain ⟨x, y, _, _, e⟩ := dn.at' j T hj
        exact Heap.lt_size (kT T hT _ e)
    rcases st.flag with ⟨hz, a, b, hTO⟩ | ⟨T, f, oT, hz, hT, r1, r2, r3, r4⟩
    · exact wpAny_bind (pyNext_zipT_end hh D hz st.hTI hTO st.h1 st.h2 st.hl1 st.hl2 hend fun h' hk2 => wpAny_pure (up h' hk2))
    · exact wpAny_bind (nx_end_held hh D hz hT st.hTI st.h1 st.h2 st.hl1 st.hl2 hend fun h' hk2 => wpAny_pure (up h' fun b o b1 _ b3 b4 e => hk2 b o b1 b3 b4 e))
  | succ k ih =>
    intro i s acc c Ts hk hi hB2 st hS dn hR
    have hlt : i < min xs.size ys.size := by omega
    have hix : i < xs.size := Nat.lt_of_lt_of_le hlt (Nat.min_le_left ..)
    have hiy : i < ys.size := Nat.lt_of_lt_of_le hlt (Nat.min_le_right ..)
    have ex := Array.getElem?_eq_getElem hix
    have ey := Array.getElem?_eq_getElem hiy
    refine codeAny_builtin F.entry_extend_loop ?_
    rw [Around.under_plainId F.plain_extend_loop _]
    show wpAny _ A.in1 (pyNext (.ref z) >>= _) _ _ s
    have step : ∀ h' : Heap, (∀ b o, b ≠ z → b ≠ TO → b ≠ i1 → b ≠ i2 → s.heap.get? b = some o → h'.get? b = some o) → ZSt h' z TI TO i1 i2 l1 l2 xs ys (i + 1) S → PySem.IsPair h' s.heap.objs.size xs[i] ys[i] → h'.objs.size = s.heap.objs.size + 1 →
        wpAny (model prog w) A.in1 (updateSeq S (·.push (.ref s.heap.objs.size)) >>= fun _ => again (.builtin "list.extend.loop" ⟨[.ref S, .ref z, res], []⟩)) (fun fin s' => match fin with | .done f => R (.ok f) s' | .again c' => c'.quiet = true ∧ codeAny (model prog w) A c' R s') (fun e s' => R (.error e) s') { s with heap := h' } := fun h' hk2 st' hp hsz => by
      have hS' := hk2 S _ P.z P.TO P.i1 P.i2 hS
      have kT : ∀ T ∈ Ts, ∀ o, s.heap.get? T = some o → h'.get? T = some o := fun T hT o e => by
        have hl := dn.lo T hT
        exact hk2 T o (neB hl hB.2.1) (neB hl hB.2.2.1) (neB hl hB.2.2.2.1) (neB hl hB.2.2.2.2) e
      have hasz : acc.size = i := by rw [dn.acc]; simp [dn.len]
      have hu : ∀ b o, b ≠ S → h'.get? b = some o → (h'.update S (Obj.mapSeq (·.push (Value.ref s.heap.objs.size)))).get? b = some o := fun b o hb e => (Heap.get?_update_other _ _ (Ne.symm hb)).trans e
      have hus : (h'.update S (Obj.mapSeq (·.push (Value.ref s.heap.objs.size)))).objs.size = s.heap.objs.size + 1 := by rw [(Heap.SameBut.update (h := h') (a := S) ..).1, hsz]
      refine wpAny_bind ?_
      refine wpAny_updateSeq hS' rfl (wpAny_pure ⟨plainId_quiet F.plain_extend_loop _, ih (i + 1) _ (acc.push (.ref s.heap.objs.size)) _ (Ts ++ [s.heap.objs.size]) (by omega) hlt ?_ (st'.frame P hu) (Heap.get?_update_self _ hS' rfl) ?_ fun h'' acc' c' Ts' hm hS'' dn' => ?_⟩)
        (by rw [hasz]; omega) (by show (acc.push _).size ≤ sizeLine + 1; rw [Array.size_push, hasz]; omega)
      · show B ≤ (h'.update S (Obj.mapSeq (·.push (Value.ref s.heap.objs.size)))).objs.size
        rw [hus]
        omega
      · refine ⟨by rw [List.length_append, dn.len]; rfl, by rw [dn.acc]; simp, fun j T hT => ?_, fun T hT => ?_, fun T hT => ?_, ?_⟩
        · rw [List.getElem?_append] at hT
          split at hT
          · obtain ⟨x, y, hx, hy, e⟩ := dn.at' j T hT
            have hm := List.mem_of_getElem? hT
            exact ⟨x, y, hx, hy, hu T _ (neB (dn.lo T hm) hB.1) (kT T hm _ e)⟩
          · rename_i hj
            have hj2 : j - Ts.length = 0 := by
              rcases Nat.eq_zero_or_pos (j - Ts.length) with h | h
              · exact h
              · rw [List.getElem?_eq_none (by simp; omega)] at hT
                cases hT
            rw [hj2] at hT
            cases hT
            have hji : j = i := by have := dn.len; omega
            subst hji
            exact ⟨_, _, ex, ey, hu _ _ (neB hB2 hB.1) hp⟩
        · rcases List.mem_append.mp hT with h | h
          · exact dn.lo T h
          · cases List.mem_singleton.mp h
            exact hB2
        · show T < (h'.update S (Obj.mapSeq (·.push (Value.ref s.heap.objs.size)))).objs.size
          rw [hus]
          rcases List.mem_append.mp hT with h | h
          · exact Nat.lt_succ_of_lt (dn.lt T h)
          · cases List.mem_singleton.mp h
            exact Nat.lt_succ_self _
        · refine List.pairwise_append.mpr ⟨dn.pw, List.pairwise_singleton _ _, fun a ha b hb => ?_⟩
          cases List.mem_singleton.mp hb
          exact dn.lt a ha
      · exact hR h'' acc' c' Ts' (fun b o b0 b1 b2 b3 b4 e => hm b o b0 b1 b2 b3 b4 (hu b o b0 (hk2 b o b1 b2 b3 b4 e))) hS'' dn'
    have lt : ∀ {c o}, s.heap.get? c = some o → s.heap.objs.size ≠ c := fun e => Nat.ne_of_gt (Heap.lt_size e)
    have n1 : s.heap.objs.size ≠ i1 := let ⟨_, e, _⟩ := st.h1; lt e
    have n2 : s.heap.objs.size ≠ i2 := let ⟨_, e, _⟩ := st.h2; lt e
    have nS : s.heap.objs.size ≠ S := neB hB2 hB.1
    rcases st.flag with ⟨hz, a, b, hTO⟩ | ⟨T, f, oT, hz, hT, r1, r2, r3, r4⟩
    · refine wpAny_bind (pyNext_zipT_item D hz st.hTI hTO st.h1 st.h2 st.hl1 st.hl2 ex ey fun h' a1 a2 a3 a4 a5 a6 hk2 => ?_)
      refine step h' hk2 ⟨hk2 _ _ D.TIz D.TITO D.TIi1 D.TIi2 st.hTI, a3, a4, st.hl1.at fun o e => hk2 _ o D.l1z D.l1TO D.l1i1 D.l1i2 e, st.hl2.at fun o e => hk2 _ o D.l2z D.l2TO D.l2i1 D.l2i2 e, .inr ⟨s.heap.objs.size, false, _, a1, a5, lt hz, n1, n2, nS⟩⟩ a5 a6
    · refine wpAny_bind (nx_item_held D hz hT st.hTI st.h1 st.h2 st.hl1 st.hl2 ex ey fun h' a1 a3 a4 a5 a6 hk2 => ?_)
      refine step h' (fun b o b1 _ b3 b4 e => hk2 b o b1 b3 b4 e) ⟨hk2 _ _ D.TIz D.TIi1 D.TIi2 st.hTI, a3, a4, st.hl1.at fun o e => hk2 _ o D.l1z D.l1i1 D.l1i2 e, st.hl2.at fun o e => hk2 _ o D.l2z D.l2i1 D.l2i2 e, .inr ⟨T, true, oT, a1, hk2 _ _ r1 r2 r3 hT, r1, r2, r3, r4⟩⟩ a5 a6
theorem zip_no_len : typeLookup (.type "zip") "__len__" = pure none := am_miss_of_fast (by decide +kernel)
theorem zip_no_hint : typeLookup (.type "zip") "__length_hint__" = pure none := am_miss_of_fast (by decide +kernel)
theorem upd_size {h : Heap} {a : Addr} {f : Obj → Obj} : (h.update a f).objs.size = h.objs.size := (Heap.SameBut.update (h := h) (a := a) ..).1
theorem extendZ {s : Shared} (hh : A.in1.handled = none) {z TI TO i1 i2 l1 l2 S : Addr} (D : ZipApart z TI TO i1 i2 l1 l2) (P : ZAp S z TI TO i1 i2 l1 l2) {xs ys : Array Value} (hn : min xs.size ys.size ≤ sizeLine) {B : Nat} (hB : S < B ∧ z < B ∧ TO < B ∧ i1 < B ∧ i2 < B) (hBs : B ≤ s.heap.objs.size)
    (hz : IsZip s.heap z TI TO .none) {a b : Value} (hTO : PySem.IsPair s.heap TO a b) (hTI : PySem.IsPair s.heap TI (.ref i1) (.ref i2)) (h1 : s.heap.IsTupleIter i1 l1 0) (h2 : s.heap.IsTupleIter i2 l2 0) (hl1 : s.heap.IsTuple l1 xs) (hl2 : s.heap.IsTuple l2 ys) {c₀ : Nat}
    (hS : s.heap.get? S = some { cls := .type "list", data := .seq #[] c₀ })
    (hR : ∀ h' acc' c' Ts', (∀ b o, b ≠ S → b ≠ z → b ≠ TO → b ≠ i1 → b ≠ i2 → s.heap.get? b = some o → h'.get? b = some o) → h'.get? S = some { cls := .type "list", dict := none, data := .seq acc' c', slots := #[] } → ZDn h' xs ys Ts' acc' (min xs.size ys.size) B → R (.ok (.ret .none)) { s with heap := h' }) :
    wpAny (model prog w) A.in1 (Builtin.List.listExtendWith (.ref S) (.ref z) .none)
      (fun fin s' => match fin with | .done f => R (.ok f) s' | .again c' => c'.quiet = true ∧ codeAny (model prog w) A c' R s') (fun e s' => R (.error e) s') s := by
  have hT : s.TypeIs (.ref z) "zip" := ⟨_, hz, rfl⟩
  unfold Builtin.List.listExtendWith
  refine wpAny_bind (wpAny_typeOf hT ?_)
  have e1 : Builtin.List.listSameRef (.ref S) (.ref z) = false := by simp [Builtin.List.listSameRef, P.z]
  have e2 : (Value.type "zip" == Value.type "list") = false := by decide
  have e3 : (Value.type "zip" == Value.type "tuple") = false := by decide
  simp only [e1, e2, e3, Bool.or_false, Bool.false_eq_true, if_false]
  refine wpAny_bind (wpAny_pyIter_zip hz ?_)
  refine wpAny_bind (wpAny_holding ?_)
  unfold Builtin.List.listLengthHint
  refine wpAny_bind (wpAny_specialOf hT zip_no_len ?_)
  show wpAny _ A.in1 (specialOf (Value.ref z) (Str.ofString "__length_hint__") >>= _) _ _ _
  refine wpAny_bind (wpAny_specialOf hT zip_no_hint ?_)
  refine wpAny_pure ?_
  show wpAny _ A.in1 (rule "list.extend.makes-room" >>= fun _ => Builtin.List.listTouch (.ref S) >>= fun _ =>
    again (.builtin "list.extend.loop" ⟨[.ref S, .ref z, .none], []⟩)) _ _ _
  refine wpAny_bind (wpAny_rule ?_)
  refine wpAny_bind ?_
  show wpAny _ A.in1 (updateSeq S (·.push .none) >>= fun _ => updateSeq S (·.pop)) _ _ _
  refine wpAny_bind (wpAny_updateSeq hS rfl ?_)
  have hS₂ := Heap.get?_update_self (Obj.mapSeq (·.push Value.none)) hS rfl
  refine wpAny_updateSeq (hz := by seq_fits) hS₂ rfl ?_
  have hS₃ := Heap.get?_update_self (Obj.mapSeq (·.pop)) hS₂ rfl
  have oth : ∀ b o, b ≠ S → s.heap.get? b = some o → ((s.heap.update S (Obj.mapSeq (·.push Value.none))).update S (Obj.mapSeq (·.pop))).get? b = some o :=
    fun b o hb e => (Heap.get?_update_other _ _ (Ne.symm hb)).trans ((Heap.get?_update_other _ _ (Ne.symm hb)).trans e)
  have st : ZSt s.heap z TI TO i1 i2 l1 l2 xs ys 0 S := ⟨hTI, h1, h2, hl1, hl2, .inl ⟨hz, a, b, hTO⟩⟩
  refine wpAny_pure ⟨plainId_quiet F.plain_extend_loop _, loopZ hh D P hn hB .none _ 0 _ #[] _ [] rfl (Nat.zero_le _) ?_ (st.frame P oth) hS₃ ⟨rfl, rfl, fun j T hT => by simp at hT, fun T hT => by simp at hT, fun T hT => by simp at hT, List.Pairwise.nil⟩ fun h' acc' c' Ts' hm hS' dn => ?_⟩
  · show B ≤ ((s.heap.update S (Obj.mapSeq (·.push Value.none))).update S (Obj.mapSeq (·.pop))).objs.size
    rw [upd_size, upd_size]
    exact hBs
  · exact hR h' acc' c' Ts' (fun b o b0 b1 b2 b3 b4 e => hm b o b0 b1 b2 b3 b4 (oth b o b0 e)) hS' dn
theorem initZ {s : Shared} (hh : A.in1.handled = none) {z TI TO i1 i2 l1 l2 S : Addr} (D : ZipApart z TI TO i1 i2 l1 l2) (P : ZAp S z TI TO i1 i2 l1 l2) {xs ys : Array Value} (hn : min xs.size ys.size ≤ sizeLine) {B : Nat} (hB : S < B ∧ z < B ∧ TO < B ∧ i1 < B ∧ i2 < B) (hBs : B ≤ s.heap.objs.size)
    (hz : IsZip s.heap z TI TO .none) {a b : Value} (hTO : PySem.IsPair s.heap TO a b) (hTI : PySem.IsPair s.heap TI (.ref i1) (.ref i2)) (h1 : s.heap.IsTupleIter i1 l1 0) (h2 : s.heap.IsTupleIter i2 l2 0) (hl1 : s.heap.IsTuple l1 xs) (hl2 : s.heap.IsTuple l2 ys)
    (hS : s.heap.get? S = some { cls := .type "list", data := .seq #[] })
    (hR : ∀ h' acc' c' Ts', (∀ b o, b ≠ S → b ≠ z → b ≠ TO → b ≠ i1 → b ≠ i2 → s.heap.get? b = some o → h'.get? b = some o) → h'.get? S = some { cls := .type "list", dict := none, data := .seq acc' c', slots := #[] } → ZDn h' xs ys Ts' acc' (min xs.size ys.size) B → R (.ok (.ret .none)) { s with heap := h' }) :
    wpAny (model prog w) A.in1 (Builtin.«list.__init__» ⟨[.ref S, .ref z], []⟩)
      (fun fin s' => match fin with | .done f => R (.ok f) s' | .again c' => c'.quiet = true ∧ codeAny (model prog w) A c' R s') (fun e s' => R (.error e) s') s := by
  show wpAny _ A.in1 (do let old ← Builtin.List.listItems (.ref S); Builtin.List.listUpdate (.ref S) (fun _ => #[]); letGo old.toList.reverse; Builtin.List.listExtendWith (.ref S) (.ref z) .none) _ _ s
  refine wpAny_bind ?_
  unfold Builtin.List.listItems
  refine wpAny_bind (wpAny_seqItems hS rfl (wpAny_pure ?_))
  show wpAny _ A.in1 (updateSeq S (fun _ => #[]) >>= fun _ => letGo (#[] : Array Value).toList.reverse >>= fun _ => Builtin.List.listExtendWith (.ref S) (.ref z) .none) _ _ s
  refine wpAny_bind (wpAny_updateSeq hS rfl ?_)
  have hS₂ := Heap.get?_update_self (Obj.mapSeq (fun _ => (#[] : Array Value))) hS rfl
  have oth : ∀ b o, b ≠ S → s.heap.get? b = some o → (s.heap.update S (Obj.mapSeq (fun _ => (#[] : Array Value)))).get? b = some o :=
    fun b o hb e => (Heap.get?_update_other _ _ (Ne.symm hb)).trans e
  have st : ZSt s.heap z TI TO i1 i2 l1 l2 xs ys 0 S := ⟨hTI, h1, h2, hl1, hl2, .inl ⟨hz, a, b, hTO⟩⟩
  have st2 := st.frame P oth
  refine wpAny_bind (wpAny_letGo ?_)
  refine extendZ (s := { s with heap := s.heap.update S (Obj.mapSeq (fun _ => (#[] : Array Value))) }) hh D P hn hB (by show B ≤ (s.heap.update S _).objs.size; rw [upd_size]; exact hBs) (oth _ _ P.z.symm hz) (oth _ _ P.TO.symm hTO) st2.hTI st2.h1 st2.h2 st2.hl1 st2.hl2 hS₂ fun h' acc' c' Ts' hm hS' dn => ?_
  exact hR h' acc' c' Ts' (fun b o b0 b1 b2 b3 b4 e => hm b o b0 b1 b2 b3 b4 (oth b o b0 e)) hS' dn
end
section
variable {prog : Program} {w : World} {A : Around} {E : Value → Shared → Prop} {s : Shared}
theorem call_listZ {Q : Value → Shared → Prop} (hh : A.handled = none) {z TI TO i1 i2 l1 l2 : Addr} (D : ZipApart z TI TO i1 i2 l1 l2) {xs ys : Array Value} (hn : min xs.size ys.size ≤ sizeLine)
    (hz : IsZip s.heap z TI TO .none) {a b : Value} (hTO : PySem.IsPair s.heap TO a b) (hTI : PySem.IsPair s.heap TI (.ref i1) (.ref i2)) (h1 : s.heap.IsTupleIter i1 l1 0) (h2 : s.heap.IsTupleIter i2 l2 0) (hl1 : s.heap.IsTuple l1 xs) (hl2 : s.heap.IsTuple l2 ys)
    (hQ : ∀ h' acc' c' Ts', (∀ b o, b ≠ z → b ≠ TO → b ≠ i1 → b ≠ i2 → s.heap.get? b = some o → h'.get? b = some o) → h'.get? s.heap.objs.size = some { cls := .type "list", dict := none, data := .seq acc' c', slots := #[] } → ZDn h' xs ys Ts' acc' (min xs.size ys.size) (s.heap.objs.size + 1) → Q (.ref s.heap.objs.size) { s with heap := h' }) :
    wpAny (model prog w) A (call (.type "list") [.ref z]) Q E s := by
  refine callType_codes (Q₁ := fun obj s₁ => obj = .ref s.heap.objs.size ∧ s₁ = { s with heap := s.heap.push { cls := .type "list", data := .seq #[] } }) F.called_list (F.typeCall_list_1 _) F.entry_list_init
    (code_list_new _ ⟨rfl, rfl⟩) fun obj s₁ h₁ => ?_
  obtain ⟨rfl, rfl⟩ := h₁
  have hS : (s.heap.push { cls := .type "list", data := .seq #[] }).get? s.heap.objs.size = some { cls := .type "list", data := .seq #[] } := Heap.get?_push_size _ rfl
  have lt : ∀ {c o}, s.heap.get? c = some o → c < s.heap.objs.size := fun e => Heap.lt_size e
  have g : ∀ {c o}, s.heap.get? c = some o → s.heap.objs.size ≠ c := fun e => Nat.ne_of_gt (Heap.lt_size e)
  have up : ∀ b o, s.heap.get? b = some o → (s.heap.push { cls := .type "list", data := .seq #[] }).get? b = some o := fun b o e => Heap.get?_push_of_some _ e
  obtain ⟨_, ei1, _⟩ := id h1
  obtain ⟨_, ei2, _⟩ := id h2
  obtain ⟨_, el1, _⟩ := id hl1
  obtain ⟨_, el2, _⟩ := id hl2
  have P : ZAp s.heap.objs.size z TI TO i1 i2 l1 l2 := ⟨g hz, g hTI, g hTO, g ei1, g ei2, g el1, g el2⟩
  have hsz : (s.heap.push { cls := .type "list", data := .seq #[] }).objs.size = s.heap.objs.size + 1 := Heap.size_push ..
  refine ⟨⟨_, hS, rfl⟩, F.args_list_init_2 _ _, initZ (A := A.in1) (s := { s with heap := s.heap.push { cls := .type "list", data := .seq #[] } }) hh D P hn (B := s.heap.objs.size + 1) ⟨Nat.lt_succ_self _, Nat.lt_succ_of_lt (lt hz), Nat.lt_succ_of_lt (lt hTO), Nat.lt_succ_of_lt (lt ei1), Nat.lt_succ_of_lt (lt ei2)⟩ (by show _ ≤ (s.heap.push _).objs.size; rw [hsz]; exact Nat.le_refl _) (up _ _ hz) (up _ _ hTO) (up _ _ hTI) (h1.at fun o e => up _ o e) (h2.at fun o e => up _ o e) (hl1.at fun o e => up _ o e) (hl2.at fun o e => up _ o e) hS fun h' acc' c' Ts' hm hS' dn => ?_⟩
  exact ⟨rfl, hQ h' acc' c' Ts' (fun b o b1 b2 b3 b4 e => hm b o (g e).symm b1 b2 b3 b4 (up b o e)) hS' dn⟩
end
/-! the pairs in the data's heap -/
inductive PairsH : Hp → List Addr → List (V × V) → Hp → Prop where
  | nil (H : Hp) : PairsH H [] [] H
  | cons {H H2 : Hp} {T : Addr} {Ts : List Addr} {p : V × V} {ps : List (V × V)} (h : H T = none) (r : PairsH (upd H T (.tup [p.1, p.2])) Ts ps H2) : PairsH H (T :: Ts) (p :: ps) H2
theorem upd_swap {H : Hp} {a b : Addr} {o u : HO} (h : a ≠ b) : upd (upd H a o) b u = upd (upd H b u) a o := by
  funext c
  unfold upd
  by_cases h1 : c = a
  · subst h1
    simp [h]
  · by_cases h2 : c = b
    · subst h2
      simp [h1]
    · simp [h1, h2]
theorem PairsH.swap {q : Addr} {o : HO} : ∀ {H H2 : Hp} {Ts : List Addr} {ps : List (V × V)}, q ∉ Ts → PairsH (upd H q o) Ts ps H2 → ∃ H3, PairsH H Ts ps H3 ∧ H2 = upd H3 q o
  | H, _, _, _, _, .nil _ => ⟨H, .nil H, rfl⟩
  | H, H2, T :: Ts, p :: ps, hq, .cons h r => by
    have hqT : T ≠ q := fun e => hq (by simp [e])
    rw [upd_swap hqT.symm] at r
    obtain ⟨H3, r3, e⟩ := PairsH.swap (fun hm => hq (List.mem_cons_of_mem _ hm)) r
    rw [upd_ne hqT] at h
    exact ⟨H3, .cons h r3, e⟩
theorem PairsH.other {c : Addr} : ∀ {H H2 : Hp} {Ts : List Addr} {ps : List (V × V)}, c ∉ Ts → PairsH H Ts ps H2 → H2 c = H c
  | _, _, _, _, _, .nil _ => rfl
  | _, _, _, _, hc, .cons _ r => by
    rw [PairsH.other (fun hm => hc (List.mem_cons_of_mem _ hm)) r]
    exact upd_ne fun e => hc (by simp [e])
def cutH (h : Heap) (n : Nat) : Heap := { objs := h.objs.extract 0 n, life := h.life }
theorem cutH_get {h : Heap} {n : Nat} {a : Addr} (ha : a < n) : (cutH h n).get? a = h.get? a := by
  unfold Heap.get?
  have : (cutH h n).objs[a]? = h.objs[a]? := by
    show (h.objs.extract 0 n)[a]? = _
    rw [Array.getElem?_extract, Nat.sub_zero]
    by_cases hs : a < h.objs.size
    · rw [if_pos (Nat.lt_min.mpr ⟨ha, hs⟩), Nat.zero_add]
    · rw [if_neg (fun z => hs (Nat.lt_of_lt_of_le z (Nat.min_le_right _ _)))]
      exact (Array.getElem?_eq_none (Nat.le_of_not_lt hs)).symm
  rw [this]
theorem cutH_size {h : Heap} {n : Nat} : (cutH h n).objs.size ≤ n := by
  show (h.objs.extract 0 n).size ≤ n
  rw [Array.size_extract]
  omega
theorem cutH_lt {h : Heap} {n : Nat} {a : Addr} {o : Obj} (e : (cutH h n).get? a = some o) : a < n := Nat.lt_of_lt_of_le (Heap.lt_size e) cutH_size
theorem cutH_mono {h : Heap} {n m : Nat} (hn : n ≤ m) {a : Addr} {o : Obj} (e : (cutH h n).get? a = some o) : (cutH h m).get? a = some o := by
  have hl := cutH_lt e
  rw [cutH_get (Nat.lt_of_lt_of_le hl hn), ← cutH_get hl]
  exact e
theorem cutH_all {h : Heap} {n : Nat} {a : Addr} {o : Obj} (e : (cutH h n).get? a = some o) : h.get? a = some o := by
  rw [← cutH_get (cutH_lt e)]
  exact e
theorem layPairs {X : Cx} {pins : List (Addr × Obj)} {σ : L2.St} {s : Shared} {h' : Heap} (Ts : List Addr) : ∀ (ps : List (V × V)) (H : Hp) (n : Nat), Inv X pins σ H { s with heap := cutH h' n } → Ts.length = ps.length → (∀ (j : Nat) (T : Addr) (p : V × V), Ts[j]? = some T → ps[j]? = some p → ∃ u v, PySem.IsPair h' T u v ∧ RelV p.1 u ∧ RelV p.2 v) → (∀ T ∈ Ts, n ≤ T) → Ts.Pairwise (· < ·) → ∃ H2 m, PairsH H Ts ps H2 ∧ Inv X pins σ H2 { s with heap := cutH h' m } := by
  induction Ts with
  | nil =>
    intro ps H n I hl _ _ _
    obtain rfl : ps = [] := List.length_eq_zero_iff.mp hl.symm
    exact ⟨H, n, .nil H, I⟩
  | cons T Ts ih =>
    intro ps H n I hl hp hn hw
    rcases ps with _ | ⟨p, ps⟩
    · cases hl
    obtain ⟨u, v, hT, r1, r2⟩ := hp 0 T p rfl rfl
    have hTn : n ≤ T := hn T (List.mem_cons_self ..)
    have hf : (cutH h' n).objs.size ≤ T := Nat.le_trans cutH_size hTn
    have hT2 : PySem.IsPair (cutH h' (T + 1)) T u v := (cutH_get (Nat.lt_succ_self T)).trans hT
    have ok : ObjOk X.prog X.w (upd H T (.tup [p.1, p.2])) (cutH h' (T + 1)) T (.tup [p.1, p.2]) := ⟨by show 2 ≤ sizeLine; decide, [u, v], .cons r1 (.cons r2 .nil), ⟨_, hT2, rfl, _, rfl⟩⟩
    have I2 := Inv.laid (X := X) (pins := pins) (σ := σ) (H := H) (s := { s with heap := cutH h' n }) (h' := cutH h' (T + 1)) (a := T) (o := .tup [p.1, p.2]) (t' := s.toks) I (fun b o e => cutH_mono (h := h') (Nat.le_succ_of_le hTn) e) hf ok
    have hw2 := List.pairwise_cons.mp hw
    obtain ⟨H2, m, q, I3⟩ := ih ps (upd H T (.tup [p.1, p.2])) (T + 1) I2 (Nat.succ.inj hl) (fun j T' p' e1 e2 => hp (j + 1) T' p' e1 e2) (fun T' h => hw2.1 T' h) hw2.2
    exact ⟨H2, m, .cons (I.hok.fresh hf) q, I3⟩
/-- an expression that makes a zip of two tuples -/
def PZ (X : Cx) (e : Expr) (t : L2.St → Hp → (List V → List V → Hp → Prop) → Prop) : Prop :=
  ∀ (pins : List (Addr × Obj)) (s : Shared) (σ : L2.St) (H : Hp) (Q : List V → List V → Hp → Prop), Inv X pins σ H s → t σ H Q →
    wpAny (model X.prog X.w) X.A (eval e X.env) (fun x s' => ∃ z TI TO i1 i2 a b xs ys its its2 u v H', x = .ref z ∧ ZipApart z TI TO i1 i2 a b ∧ IsZip s'.heap z TI TO .none ∧ PySem.IsPair s'.heap TO u v ∧ PySem.IsPair s'.heap TI (.ref i1) (.ref i2) ∧ s'.heap.IsTupleIter i1 a 0 ∧ s'.heap.IsTupleIter i2 b 0 ∧
      s'.heap.IsTuple a (List.toArray its) ∧ s'.heap.IsTuple b (List.toArray its2) ∧ Vals xs its ∧ Vals ys its2 ∧ (∀ c, c ∈ [z, TO, i1, i2] → FpOk X pins H' c) ∧ Inv X pins σ H' s' ∧ Q xs ys H') X.xe s
def tZ (K : PySem.W.Frag) (ta : TA) : L2.St → Hp → (List V → List V → Hp → Prop) → Prop := fun σ H Q => ta σ H fun vs H1 => ∃ a b xs ys, vs = [.ref a, .ref b] ∧ SqT K H1 a xs ∧ SqT K H1 b ys ∧ Q xs ys H1
theorem pz_zip {X : Cx} {e e2 : Expr} {ta : TA} {p pos : Pos} (hg : Gl X "zip") (hm : X.mg "zip" = none) (ha : PA X [e, e2] ta)
    (hs : starEach [e, e2] X.env = (false, eval e X.env) :: starEach [e2] X.env) (hpl : (backTo pos (starEach [e2] X.env)).any (·.1) = false) :
    PZ X (.Call (.Name "zip" p) [e, e2] [] pos) (tZ X.K ta) := by
  intro pins s σ H Q I h
  refine Call_ (ld_blt I hg hm PyProof.Rows.boot_zip (PyProof.Rows.callWith_type1 (thn (ha.run pos pins s σ H _ I h) fun us s1 ⟨vs, H1, I1, r1, q1⟩ => ?_) hs hpl))
  obtain ⟨a, b, xs, ys, ex, hqx, hqy, q⟩ := q1
  subst ex
  cases r1 with
  | cons r rr =>
    cases rr with
    | cons r' rr =>
      cases rr
      cases r
      cases r'
      have fresh5 : ∀ c, s1.heap.objs.size ≤ c → FpOk X pins H1 c := fun c hle => I1.fpOk hle (I1.hok.fresh hle)
      obtain ⟨its, rv, p1, _⟩ := I1.tuple hqx
      obtain ⟨its2, rv2, p2, _⟩ := I1.tuple hqy
      obtain ⟨o1, ho1, _⟩ := id p1
      obtain ⟨o2, ho2, _⟩ := id p2
      refine call_zipT (show s1.heap.IsTuple a its.toArray from p1) (show s1.heap.IsTuple b its2.toArray from p2) fun h' hz hTI hTO h1 h2 hsz hk => ?_
      have I2 : Inv X pins σ H1 { s1 with heap := h' } := I1.kept (t' := s1.toks) hk
      have t1 : Heap.IsTuple h' a its.toArray := Heap.IsTuple.at (show s1.heap.IsTuple a its.toArray from p1) fun o e => hk _ o e
      have t2 : Heap.IsTuple h' b its2.toArray := Heap.IsTuple.at (show s1.heap.IsTuple b its2.toArray from p2) fun o e => hk _ o e
      refine ⟨_, _, _, _, _, a, b, xs, ys, its, its2, _, _, H1, rfl, PySem.W.ktu_apart s1.heap.objs.size a b (Heap.lt_size ho1) (Heap.lt_size ho2), hz, hTO, hTI, h1, h2, t1, t2, rv, rv2, fun c hc => ?_, I2, q⟩
      have hc2 : c = s1.heap.objs.size + 4 ∨ c = s1.heap.objs.size + 3 ∨ c = s1.heap.objs.size ∨ c = s1.heap.objs.size + 1 := by simpa using hc
      refine fresh5 c ?_
      rcases hc2 with z | z | z | z
      · rw [z]; exact Nat.le_add_right _ _
      · rw [z]; exact Nat.le_add_right _ _
      · rw [z]; exact Nat.le_refl _
      · rw [z]; exact Nat.le_add_right _ _
theorem vals_refs : ∀ Ts : List Addr, Vals (Ts.map V.ref) (Ts.map Value.ref)
  | [] => .nil
  | T :: Ts => .cons rfl (vals_refs Ts)
def tLstZ (tz : L2.St → Hp → (List V → List V → Hp → Prop) → Prop) : TE := fun σ H Q => tz σ H fun xs ys H1 => min xs.length ys.length ≤ sizeLine ∧ ∀ (Ts : List Addr) (H2 : Hp) (q : Addr), PairsH H1 Ts (xs.zip ys) H2 → H2 q = none → Q (.ref q) (upd H2 q (.lst (Ts.map V.ref)))
theorem pe_lstZ {X : Cx} {e : Expr} {tz : L2.St → Hp → (List V → List V → Hp → Prop) → Prop} {p pos : Pos} (hc : X.calm = true) (hg : Gl X "list") (hm : X.mg "list" = none) (he : PZ X e tz) (na : starEach [e] X.env = (false, eval e X.env) :: starEach [] X.env := by rfl) : PE X (.Call (.Name "list" p) [e] [] pos) (tLstZ tz) := by
  refine ⟨fun pins s σ H Q I h => ?_⟩
  refine Call_ (ld_blt I hg hm PyProof.Rows.boot_list (PyProof.Rows.callWith_type1 (args_cons (thn (he pins s σ H _ I h) fun x s1 ⟨z, TI, TO, i1, i2, a, b, xs, ys, its, its2, u, v, H1, ex, D, hz, hTO, hTI, h1, h2, hl1, hl2, rv, rv2, hf, I1, hlen, q⟩ => args_nil ?_) na) na))
  subst ex
  have l1 := rv.length
  have l2 := rv2.length
  have hmin : min its.toArray.size its2.toArray.size = min xs.length ys.length := by simp [l1, l2]
  refine call_listZ (I1.ok.hd hc) D (by rw [hmin]; exact hlen) hz hTO hTI h1 h2 hl1 hl2 fun h' acc c Ts hk hS dn => ?_
  have I2 : Inv X pins σ H1 { s1 with heap := cutH h' s1.heap.objs.size } := I1.turnedL (t' := s1.toks) (ch := [z, TO, i1, i2]) (fun b o hb e => by
    rw [cutH_get (Heap.lt_size e)]
    exact hk b o (fun z => hb (by simp [z])) (fun z => hb (by simp [z])) (fun z => hb (by simp [z])) (fun z => hb (by simp [z])) e) hf
  have hS2 : (cutH h' (s1.heap.objs.size + 1)).get? s1.heap.objs.size = some { cls := .type "list", dict := none, data := .seq acc.toList.toArray c, slots := #[] } := by
    rw [cutH_get (Nat.lt_succ_self _), Array.toArray_toList]
    exact hS
  have hacc : acc.toList = Ts.map Value.ref := by rw [dn.acc]
  have hTl : Ts.length = min xs.length ys.length := by rw [dn.len, hmin]
  have ok : ObjOk X.prog X.w (upd H1 s1.heap.objs.size (.lst (Ts.map V.ref))) (cutH h' (s1.heap.objs.size + 1)) s1.heap.objs.size (.lst (Ts.map V.ref)) := ⟨by rw [List.length_map, hTl]; exact hlen, acc.toList, c, by rw [hacc]; exact vals_refs Ts, hS2⟩
  have I3 := Inv.laid (X := X) (pins := pins) (σ := σ) (H := H1) (s := { s1 with heap := cutH h' s1.heap.objs.size }) (h' := cutH h' (s1.heap.objs.size + 1)) (a := s1.heap.objs.size) (o := .lst (Ts.map V.ref)) (t' := s1.toks) I2 (fun b o e => cutH_mono (h := h') (Nat.le_succ _) e) cutH_size ok
  obtain ⟨H3, m, q3, I4⟩ := layPairs Ts (xs.zip ys) _ (s1.heap.objs.size + 1) I3 (by rw [hTl, List.length_zip]) (fun j T pr hT hp => by
    obtain ⟨x', y', hx', hy', hP⟩ := dn.at' j T hT
    rw [List.getElem?_zip_eq_some] at hp
    obtain ⟨u1, hu1, ru1⟩ := rv.get hp.1
    obtain ⟨u2, hu2, ru2⟩ := rv2.get hp.2
    have e1 : its[j]? = some x' := by simpa using hx'
    have e2 : its2[j]? = some y' := by simpa using hy'
    rw [hu1] at e1
    rw [hu2] at e2
    cases e1
    cases e2
    exact ⟨_, _, hP, ru1, ru2⟩) dn.lo dn.pw
  have I5 : Inv X pins σ H3 { s1 with heap := h' } := I4.kept (t' := s1.toks) fun b o e => cutH_all e
  have hSn : s1.heap.objs.size ∉ Ts := fun hm => Nat.lt_irrefl _ (Nat.lt_of_lt_of_le (Nat.lt_succ_self _) (dn.lo _ hm))
  obtain ⟨H2, q2, rfl⟩ := q3.swap hSn
  exact ⟨.ref s1.heap.objs.size, _, I5, rfl, q Ts H2 s1.heap.objs.size q2 (by rw [PairsH.other hSn q2]; exact I1.hok.fresh (Nat.le_refl _))⟩
/-! its meaning -/
def lzipE (f g : Sl → R EV) : Sl → R EV := fun s => (argsE [f, g] s).bind fun es s1 => match evVs es s1 with
  | some ([.tup xs, .tup ys], s2) => if fits (min xs.length ys.length) then .ok (.val (.lst true (zipL xs ys))) s2 else .no
  | _ => .no
section
variable {X : Cx} {cA : Nat → Addr} {W : Gx} {a b : Expr} {f g : Sl → R EV} {pos : Pos}
theorem rl_pairs {fp : Nat → List Addr} {s : Sl} {σ : L2.St} : ∀ {Ts : List Addr} {ps : List (V × V)} {H H2 F : Hp}, PairsH H Ts ps H2 → Rl X.K cA F W.P W.pn fp s σ H → ∃ F2, Same F F2 ∧ Rl X.K cA F2 W.P W.pn fp s σ H2 ∧ ∀ {xs ys : List D} {us ws : List V}, RepFs X.K cA F xs us → RepFs X.K cA F ys ws → ps = us.zip ws → RepFs X.K cA F2 (zipL xs ys) (Ts.map V.ref) := by
  intro Ts ps H H2 F h
  induction h generalizing F with
  | nil H =>
    intro r
    refine ⟨F, Same.refl F, r, fun {xs ys us ws} n1 n2 e => ?_⟩
    rcases us with _ | ⟨u, us⟩
    · have := n1.length
      obtain rfl : xs = [] := List.length_eq_zero_iff.mp (by simpa using this)
      exact rfl
    · rcases ws with _ | ⟨w, ws⟩
      · have := n2.length
        obtain rfl : ys = [] := List.length_eq_zero_iff.mp (by simpa using this)
        unfold zipL
        rw [List.zipWith_nil_right]
        exact rfl
      · cases e
  | @cons H H2 T Ts p ps hT hr ih =>
    intro r
    have e1 := same_upd (Same.free r.fz hT) (.tup [p.1, p.2])
    obtain ⟨F2, g2, r2, q2⟩ := ih (r.newF hT (.tup [p.1, p.2]))
    refine ⟨F2, e1.trans g2, r2, fun {xs ys us ws} n1 n2 e => ?_⟩
    rcases us with _ | ⟨u, us⟩
    · cases e
    · rcases ws with _ | ⟨w, ws⟩
      · cases e
      · rw [List.zip_cons_cons, List.cons.injEq] at e
        obtain ⟨rfl, rfl⟩ := e
        rcases xs with _ | ⟨x, xs⟩
        · cases (show u :: us = [] from n1)
        · rcases ys with _ | ⟨y, ys⟩
          · cases (show w :: ws = [] from n2)
          · obtain ⟨v1, z1, h1, m1, k1⟩ := n1
            obtain ⟨v2, z2, h2, m2, k2⟩ := n2
            cases h1
            cases h2
            have q3 := q2 (k1.mono e1) (k2.mono e1) rfl
            have mm1 := (m1.mono e1).mono g2
            have mm2 := (m2.mono e1).mono g2
            refine ⟨.ref T, Ts.map V.ref, rfl, ⟨T, [u, w], rfl, SqT_mono (.of upd_same) g2, ⟨u, [w], rfl, mm1, w, [], rfl, mm2, rfl⟩⟩, q3⟩
theorem se_lzip {p p2 pos2 : Pos} (hc : X.calm = true) (hg : Gl X "list") (hm : X.mg "list" = none) (hg2 : Gl X "zip") (hm2 : X.mg "zip" = none) (ha : SE X cA W a f) (hb : SE X cA W b g) (h1 : noStar a = true) (h2 : noStar b = true) : SE X cA W (.Call (.Name "list" p) [.Call (.Name "zip" p2) [a, b] [] pos2] [] pos) (lzipE f g) := by
  refine PE_mono (pe_lstZ hc hg hm (pz_zip hg2 hm2 (sa_cons ha (sa_cons hb sa_nil h2) h1) (starEach_cons h1) (back_plain (by rw [List.all_cons, h2]; rfl))) (starEach_cons rfl)) fun σ H Q h => ?_
  obtain ⟨F, fp, s, r, p⟩ := h
  refine ⟨F, fp, s, r, Po.bind p fun es1 s1 _ p1 vs H1 F1 fp1 g1 r1 q1 => ?_⟩
  split at p1
  · rename_i xs ys s2 hd
    obtain ⟨F2, fp2, g2, r2, q2⟩ := Eps.evVs r1 q1 hd
    obtain ⟨v1, vr, rfl, w1, v2, vr2, rfl, w2, w3⟩ := q2
    cases (show vr2 = [] from w3)
    split at p1
    · rename_i hf
      obtain ⟨a1, us, rfl, m1, n1⟩ := w1
      obtain ⟨b1, ws, rfl, m2, n2⟩ := w2
      refine ⟨a1, b1, us, ws, rfl, SqT_mono m1 r2.fz, SqT_mono m2 r2.fz, by rw [← n1.length, ← n2.length]; exact Nat.le_trans (fits_le hf) LN_le, fun Ts H2 q hp hq => ?_⟩
      obtain ⟨F3, g3, r3, q3⟩ := rl_pairs hp r2
      exact KE_mono _ _ _ _ ((g1.trans g2).trans g3) p1 |> fun k => Ke.list k r3 hq (q3 n1 n2 rfl)
    · exact p1.elim
  · exact p1.elim
end
end NS
namespace NS
open PySem PySem.Spec PyProof.Rows L2

/-! ## instances: fields read and stored -/
def flook : List Str → List D → Str → Option D
  | k :: ks, x :: xs, f => if k = f then some x else flook ks xs f
  | _, _, _ => none
def fput : List Str → List D → Str → D → List Str × List D
  | k :: ks, x :: xs, f, d => if k = f then (k :: ks, d :: xs) else (k :: (fput ks xs f d).1, x :: (fput ks xs f d).2)
  | ks, xs, f, d => (ks ++ [f], xs ++ [d])
def evO (e : EV) (s : Sl) : Option D := match e with
  | .val d => some d
  | .al i => match s[i]? with
    | some (some d) => some d
    | _ => none
def attrK (okc : Nat → Str → Bool) (f : Str) (e : EV) (s : Sl) : R EV := match evO e s with
  | some (.obj _ c ks xs) => if okc c f then (match flook ks xs f with
    | some d => if d.own then .no else .ok (.val d) s
    | none => .no) else .no
  | _ => .no
def attrE (okc : Nat → Str → Bool) (f : Str) (fe : Sl → R EV) : Sl → R EV := penE fe (attrK okc f)
def notOwn : Option D → Bool
  | some d => !d.own
  | none => true
def astoK (okc : Nat → Str → Bool) (i : Nat) (f : Str) (ev : EV) (s : Sl) : R Unit := match evV ev s with
  | some (d, s2) => (match s2[i]? with
    | some (some (.obj true c ks xs)) => if okc c f && (notOwn (flook ks xs f) && Nat.ble ks.length 900) then .ok () (s2.set i (some (.obj true c (fput ks xs f d).1 (fput ks xs f d).2))) else .no
    | _ => .no)
  | none => .no
def hasSl (i : Nat) (s : Sl) : Bool := match s[i]? with
  | some (some _) => true
  | _ => false
def asto1 (okc : Nat → Str → Bool) (i : Nat) (f : Str) (ev : EV) (s : Sl) : R Unit := if hasSl i s then astoK okc i f ev s else .no
def astoS (okc : Nat → Str → Bool) (i : Nat) (f : Str) (fe : Sl → R EV) : Sl → Fl := fun s => (penE fe (asto1 okc i f) s).to nxU'
section
variable {K : PySem.W.Frag} {cA : Nat → Addr} {F H H' : Hp}
theorem lookup_zip {f : Str} : ∀ {ks : List Str} {xs : List D} {vs : List V} {ls : List Addr} {d : D}, ks.length = vs.length → Vls K cA F H xs vs ls → flook ks xs f = some d → ∃ u l, (ks.zip vs).lookup f = some u ∧ Vl K cA F H d u l
  | [], xs, vs, ls, d, _, _, h => by simp [flook] at h
  | k :: ks, [], vs, ls, d, hl, q, h => by simp [flook] at h
  | k :: ks, x :: xs, vs, ls, d, hl, q, h => by
    obtain ⟨v, r, l1, l2, rfl, q1, q2, rfl⟩ := q
    rw [flook] at h
    by_cases e : k = f
    · subst e
      rw [if_pos rfl] at h
      cases h
      exact ⟨v, l1, by rw [List.zip_cons_cons, List.lookup_cons, beq_self_eq_true], q1⟩
    · rw [if_neg e] at h
      obtain ⟨u, l, h1, h2⟩ := lookup_zip (ks := ks) (by simpa using hl) q2 h
      refine ⟨u, l, ?_, h2⟩
      rw [List.zip_cons_cons, List.lookup_cons, show (f == k) = false from beq_eq_false_iff_ne.mpr fun z => e z.symm]
      exact h1
theorem flook_repf {f : Str} : ∀ {ks : List Str} {xs : List D} {vs : List V} {d : D}, ks.length = vs.length → RepFs K cA F xs vs → flook ks xs f = some d → ∃ u, (ks.zip vs).lookup f = some u ∧ RepF K cA F d u
  | [], xs, vs, d, _, _, h => by simp [flook] at h
  | k :: ks, [], vs, d, hl, q, h => by simp [flook] at h
  | k :: ks, x :: xs, vs, d, hl, q, h => by
    obtain ⟨v, r, rfl, q1, q2⟩ := q
    rw [flook] at h
    by_cases e : k = f
    · subst e
      rw [if_pos rfl] at h
      cases h
      exact ⟨v, by rw [List.zip_cons_cons, List.lookup_cons, beq_self_eq_true], q1⟩
    · rw [if_neg e] at h
      obtain ⟨u, h1, h2⟩ := flook_repf (ks := ks) (by simpa using hl) q2 h
      refine ⟨u, ?_, h2⟩
      rw [List.zip_cons_cons, List.lookup_cons, show (f == k) = false from beq_eq_false_iff_ne.mpr fun z => e z.symm]
      exact h1
/-- a field that is no container of one place -/
theorem obj_field {F H : Hp} {P : Hp} {pn : Nat → Option V} {fp : Nat → List Addr} {s : Sl} {σ : L2.St} {ev : EV} {v : V} {o : Bool} {c : Nat} {ks : List Str} {xs : List D} (r : Rl K cA F P pn fp s σ H) (q : Ep K cA F σ v ev) (e : evO ev s = some (.obj o c ks xs)) :
    ∃ a dx vs, v = .ref a ∧ H a = some (.ins (cA c) dx (ks.zip vs)) ∧ ∀ f d, flook ks xs f = some d → d.own = false → ∃ u, (ks.zip vs).lookup f = some u ∧ RepF K cA F d u := by
  cases ev with
  | val d =>
    simp only [evO, Option.some.injEq] at e
    subst e
    obtain ⟨q1, q2⟩ := q
    cases o with
    | true => cases q2
    | false =>
      obtain ⟨a, dx, vs, rfl, h2, hl, h3⟩ := q1
      exact ⟨a, dx, vs, rfl, r.fz _ _ h2, fun f d hf _ => flook_repf hl h3 hf⟩
  | al i =>
    simp only [evO] at e
    split at e
    · rename_i d hd
      cases e
      obtain ⟨u, hu, w⟩ := r.sl i _ hd
      have q : σ[i]? = some (some v) := q
      rw [q] at hu
      cases hu
      cases o with
      | true =>
        obtain ⟨a, dx, vs, ls, rfl, h2, hl, h3, _⟩ := w
        refine ⟨a, dx, vs, rfl, h2, fun f d hf ho => ?_⟩
        obtain ⟨u, l, h4, h5⟩ := lookup_zip hl h3 hf
        exact ⟨u, h4, (Vl.of_frozen ho h5).1⟩
      | false =>
        obtain ⟨⟨a, dx, vs, rfl, h2, hl, h3⟩, _⟩ := w
        exact ⟨a, dx, vs, rfl, r.fz _ _ h2, fun f d hf _ => flook_repf hl h3 hf⟩
    · cases e
theorem fput_vls {f : Str} {d : D} {u : V} (hd : Vl K cA F H d u []) : ∀ {ks : List Str} {xs : List D} {vs : List V} {ls : List Addr}, ks.length = vs.length → Vls K cA F H xs vs ls → notOwn (flook ks xs f) = true →
    ∃ us, L2.putF f u (ks.zip vs) = (fput ks xs f d).1.zip us ∧ (fput ks xs f d).1.length = us.length ∧ Vls K cA F H (fput ks xs f d).2 us ls
  | [], xs, vs, ls, hl, q, ho => by
    cases vs with
    | cons v r => simp at hl
    | nil =>
      cases xs with
      | cons x xs =>
        obtain ⟨_, _, _, _, e, _⟩ := q
        cases e
      | nil =>
        have q : ([] : List V) = [] ∧ ls = [] := q
        exact ⟨[u], rfl, rfl, u, [], [], [], rfl, hd, ⟨rfl, rfl⟩, q.2⟩
  | k :: ks, [], vs, ls, hl, q, ho => by
    have q : vs = [] ∧ ls = [] := q
    rw [q.1] at hl
    simp at hl
  | k :: ks, x :: xs, vs, ls, hl, q, ho => by
    obtain ⟨v, r, l1, l2, rfl, q1, q2, rfl⟩ := q
    by_cases e : k = f
    · subst e
      rw [flook, if_pos rfl] at ho
      have hx : x.own = false := by simpa [notOwn] using ho
      obtain ⟨_, e1⟩ := Vl.of_frozen hx q1
      subst e1
      have ef : fput (k :: ks) (x :: xs) k d = (k :: ks, d :: xs) := by simp [fput]
      rw [ef]
      refine ⟨u :: r, ?_, by simpa using hl, u, r, [], l2, rfl, hd, q2, rfl⟩
      rw [List.zip_cons_cons, L2.putF, if_pos rfl]
      rfl
    · rw [flook, if_neg e] at ho
      obtain ⟨us, e1, e2, e3⟩ := fput_vls hd (ks := ks) (by simpa using hl) q2 ho
      have ef : fput (k :: ks) (x :: xs) f d = (k :: (fput ks xs f d).1, x :: (fput ks xs f d).2) := by simp [fput, e]
      rw [ef]
      refine ⟨v :: us, ?_, by simpa using e2, v, us, l1, l2, rfl, q1, e3, rfl⟩
      rw [List.zip_cons_cons, L2.putF, if_neg e, e1]
      rfl
end
section
variable {X : Cx} {cA : Nat → Addr} {W : Gx} {e a b c tg o : Expr} {es : List Expr} {f g h fo : Sl → R EV} {pos : Pos} {okc : Nat → Str → Bool} {n : Str}
/-- what is known of the classes -/
def OkC (X : Cx) (cA : Nat → Addr) (okc : Nat → Str → Bool) : Prop := ∀ c f, okc c f = true → Cls X.K (cA c) ∧ NoAttr X.K (cA c) f
theorem se_attr (hk : OkC X cA okc) (ho : SE X cA W o fo) (hb : attributeBase o n X.env (eval o X.env) = eval o X.env) : SE X cA W (.Attribute o n pos) (attrE okc n fo) := by
  refine PE_mono (pe_fld ho hb) fun σ H Q h => ?_
  obtain ⟨F, fp, s, r, p⟩ := h
  have z := pen_run (C := fun F => KE X.K cA W F σ Q) (W := W) KE_mono r p
  obtain ⟨F0, fp0, s0, r0, p0⟩ := z
  refine ⟨F0, fp0, s0, r0, Po.up (Same.refl _) p0 fun ev' s' _ z y H4 F' fp' g' r' q' => ?_⟩
  obtain ⟨F5, fp5, s5, e5, r5, q5, g5, p5⟩ := z y H4 F' fp' g' r' q'
  unfold attrK at p5
  split at p5
  · rename_i o' c ks xs hev
    split at p5
    · rename_i hc
      obtain ⟨c1, c2⟩ := hk c n hc
      split at p5
      · rename_i d hd
        split at p5
        · exact p5.elim
        · rename_i hown
          have hown : d.own = false := by simpa using hown
          obtain ⟨a, dx, vs, rfl, h2, h3⟩ := obj_field r5 q5 hev
          obtain ⟨u, h4, h5⟩ := h3 n d hd hown
          exact ⟨a, cA c, dx, _, u, rfl, h2, c1, c2, h4, Ke.fin p5 r5 hown h5⟩
      · exact p5.elim
    · exact p5.elim
  · exact p5.elim
theorem ss_asto {i : Nat} {x : Str} {p1 p2 : Pos} (hk : OkC X cA okc) (hx : PE X (.Name x p1) (tVar i)) (he : SE X cA W e f) (hn : notComp e = true) : SS X cA W (.Assign [.Attribute (.Name x p1) n p2] e pos) (astoS okc i n f) := by
  refine PS_mono (ps_fld hx he (show swapsWith e (some (.Attribute (.Name x p1) n p2)) pos.line X.env = pure false from swaps_no hn)) fun D σ H h => ?_
  obtain ⟨F, fp, s, r, p⟩ := h
  refine ⟨F, fp, s, r, ?_⟩
  have p' : PoS X.K cA W F D ((f s).to fun e s1 => (asto1 okc i n e.pend s1).to nxU') := by
    have z : astoS okc i n f s = ((f s).to fun e s1 => (asto1 okc i n e.pend s1).to nxU') := by
      unfold astoS penE
      cases f s <;> rfl
    rw [← z]
    exact p
  refine PoS.to p' fun ev s1 _ p1 v H1 F1 fp1 g1 r1 q1 => ?_
  obtain ⟨F2, g2, r2, q2⟩ := q1.pend r1
  have g12 := g1.trans g2
  unfold asto1 at p1
  split at p1
  · unfold astoK at p1
    split at p1
    · rename_i d s6 hd
      obtain ⟨F6, fp6, g6, r6, q6, ho6⟩ := Ep.evV r2 q2 hd
      split at p1
      · rename_i c ks xs h2
        split at p1
        · rename_i hb
          rw [Bool.and_eq_true, Bool.and_eq_true] at hb
          obtain ⟨hc, hno, hlen⟩ := hb
          obtain ⟨c1, c2⟩ := hk c n hc
          obtain ⟨u, hu', q⟩ := r6.sl i _ h2
          obtain ⟨pa, dx, vs, ls, rfl, m, hl, w, hfp⟩ := q
          obtain ⟨us, e1, e2, e3⟩ := fput_vls (Vl.frozen (H := H1) ho6 q6) hl w hno
          have hzl : (ks.zip vs).length < 1000 := by
            have := Nat.le_of_ble_eq_true hlen
            rw [List.length_zip]; omega
          refine ⟨.ref pa, hu', pa, cA c, dx, ks.zip vs, rfl, m, c1, c2, hzl, ?_⟩
          rw [e1]
          have p6 : PoS X.K cA W F D (.nx (s6.set i (some (.obj true c (fput ks xs n d).1 (fput ks xs n d).2)))) := p1
          have hnd := r6.nd i
          rw [hfp] at hnd
          refine p6 σ _ F6 fp6 (g12.trans g6) (r6.write h2 hu' (by rw [hfp]; simp) ⟨pa, dx, us, ls, rfl, upd_same, e2, Vls.keep (Same.refl _) _ _ _ e3 fun b hb => upd_ne fun z => ?_, hfp⟩)
          subst z
          exact (List.nodup_cons.mp hnd).1 hb
        · exact p1.elim
      · exact p1.elim
    · exact p1.elim
  · exact p1.elim
def aaugK (okc : Nat → Str → Bool) (i : Nat) (f : Str) (m : Int) (c0 : Nat) (ev : EV) (s : Sl) : R Unit := match evR ev s, s[i]? with
  | some (.int j), some (some (.obj true c ks xs)) => if Nat.beq c c0 && (notOwn (flook ks xs f) && Nat.ble ks.length 900) then .ok () (s.set i (some (.obj true c (fput ks xs f (.int (m + j))).1 (fput ks xs f (.int (m + j))).2))) else .no
  | _, _ => .no
def aaug0 (okc : Nat → Str → Bool) (i : Nat) (f : Str) (fe : Sl → R EV) (o : Option (Option D)) (s : Sl) : R Unit := match o with
  | some (some (.obj true c ks xs)) => if okc c f then (match flook ks xs f with
    | some (.int m) => penE fe (aaugK okc i f m c) s
    | _ => .no) else .no
  | _ => .no
def aaugS (okc : Nat → Str → Bool) (i : Nat) (f : Str) (fe : Sl → R EV) : Sl → Fl := fun s => (aaug0 okc i f fe s[i]? s).to nxU'
theorem ss_aaug {i : Nat} {x : Str} {p1 p2 : Pos} {rd : V → V → Hp → VK → Prop} (hop : InOp X .Add rd) (hrd : ∀ (i j : Int) (H : Hp) (Q : VK), Q (.int (i + j)) H → rd (.int i) (.int j) H Q) (hk : OkC X cA okc) (hx : PE X (.Name x p1) (tVar i)) (he : SE X cA W e f) : SS X cA W (.AugAssign (.Attribute (.Name x p1) n p2) .Add e pos) (aaugS okc i n f) := by
  refine PS_mono (ps_fldaug hx he hop) fun D σ H h => ?_
  obtain ⟨F, fp, s, r, p⟩ := h
  unfold aaugS at p
  cases hsi : s[i]? with
  | none => rw [hsi] at p; exact p.elim
  | some o =>
    rw [hsi] at p
    cases o with
    | none => exact p.elim
    | some d0 =>
      cases d0 <;> try exact p.elim
      rename_i b c ks xs
      cases b
      · exact p.elim
      have p : PoS X.K cA W F D ((if okc c n then (match flook ks xs n with
    | some (.int m) => penE f (aaugK okc i n m c) s
    | _ => .no) else .no : R Unit).to nxU') := p
      split at p
      · rename_i hc
        obtain ⟨c1, c2⟩ := hk c n hc
        split at p
        · rename_i m hm
          obtain ⟨u, hu, q⟩ := r.sl i _ hsi
          obtain ⟨pa, dx, vs, ls, rfl, mh, hl, w, hfp⟩ := q
          obtain ⟨uu, l, k1, k2⟩ := lookup_zip hl w hm
          have k2 : uu = .int m := (Vl.of_frozen rfl k2).1
          subst k2
          refine ⟨.ref pa, hu, pa, cA c, dx, ks.zip vs, .int m, rfl, mh, c1, c2, k1, ?_⟩
          have p2 := PoS.to (C := fun (_ : Unit) s' => PoS X.K cA W F D (.nx s')) (σ := σ) p (fun _ _ _ z => z)
          have z := pen_run (C := fun F (_ : Unit) s' => PoS X.K cA W F D (.nx s')) (W := W) (fun F F' b s g h => PoS.up g h) r p2
          obtain ⟨F0, fp0, s0, r0, p0⟩ := z
          refine ⟨F0, fp0, s0, r0, Po.up (Same.refl _) p0 fun ev' s' _ z y H4 F' fp' g' r' q' => ?_⟩
          obtain ⟨F5, fp5, s5, e5, r5, q5, g5, p5⟩ := z y H4 F' fp' g' r' q'
          unfold aaugK at p5
          split at p5
          · rename_i j c' ks' xs' h1 h2
            split at p5
            · rename_i hb
              rw [Bool.and_eq_true, Bool.and_eq_true] at hb
              obtain ⟨hc', hno, hlen⟩ := hb
              cases int_of r5 q5 h1
              refine hrd m j H4 _ ?_
              obtain ⟨u2, hu2, q2⟩ := r5.sl i _ h2
              rw [hu] at hu2
              cases hu2
              obtain ⟨pb, dx', vs', ls', e', m', hl', w', hfp'⟩ := q2
              cases e'
              obtain ⟨us, e1, e2, e3⟩ := fput_vls (f := n) (Vl.frozen (H := H4) (d := .int (m + j)) rfl rfl) hl' w' hno
              have hzl : (ks'.zip vs').length < 1000 := by
                have := Nat.le_of_ble_eq_true hlen
                rw [List.length_zip]; omega
              have hcc := Nat.eq_of_beq_eq_true hc'
              subst hcc
              refine ⟨dx', ks'.zip vs', m', hzl, ?_⟩
              rw [e1]
              have p6 : PoS X.K cA W F5 D (.nx (s5.set i (some (.obj true c' (fput ks' xs' n (.int (m + j))).1 (fput ks' xs' n (.int (m + j))).2)))) := p5
              have hnd := r5.nd i
              rw [hfp'] at hnd
              refine p6 σ _ F5 fp5 (Same.refl _) (r5.write h2 hu (by rw [hfp']; simp) ⟨pa, dx', us, ls', rfl, upd_same, e2, Vls.keep (Same.refl _) _ _ _ e3 fun b hb => upd_ne fun z => ?_, hfp'⟩)
              subst z
              exact (List.nodup_cons.mp hnd).1 hb
            · exact p5.elim
          · exact p5.elim
        · exact p.elim
      · exact p.elim
end
end NS
namespace NS
open PySem PySem.Spec PyProof.Rows L2

/-! ## objects made, methods called -/
/-- C(e, ..): the new object goes through __init__ and is the value -/
def makeK (cal : List D → CR) (pins : List Bool) (c : Nat) (es : List EV) (s : Sl) : R EV := match takeA pins es s with
  | none => .no
  | some (ds, s2) => match cal (.obj true c [] [] :: ds) with
    | .ok .non (some (.obj true c' ks xs) :: ds') => if Nat.beq ds'.length pins.length then .ok (.val (.obj true c' ks xs)) (giveA pins es ds' s2) else .no
    | _ => .no
section
variable {X : Cx} {cA : Nat → Addr} {W : Gx} {e a b o : Expr} {es : List Expr} {f g : Sl → R EV} {pos : Pos}
theorem make_ok {F H : Hp} {fp : Nat → List Addr} {s : Sl} {σ : L2.St} {vs : List V} {es : List EV} {cal : List D → CR} {pins : List Bool} {c : Nat} {Q : VK} (r : Rl X.K cA F W.P W.pn fp s σ H) (q : Eps X.K cA F σ vs es) (p : Po X.K cA W F σ (makeK cal pins c es s) (KE X.K cA W F σ Q)) {x dx : Addr} (hx : H x = none) (hdx : H dx = none) (hne : dx ≠ x) :
    spF X.K cA cal (true :: pins) (.ref x :: vs) (upd (upd H dx (.own x)) x (.ins (cA c) dx [])) (fun v H2 => v = .non ∧ Q (.ref x) H2) fun cls dx H' => W.w cls dx σ H' := by
  unfold makeK at p
  split at p
  · exact p.elim
  · rename_i ds s2 ht
    have hx2 : (upd H dx (.own x)) x = none := by rw [upd_ne (Ne.symm hne)]; exact hx
    have r1 := (r.new hdx (.own x)).new hx2 (.ins (cA c) dx [])
    have fpx : ∀ j, x ∉ fp j := fun j h => by
      obtain ⟨o, ho⟩ := r.there h
      rw [hx] at ho; cases ho
    have r2 := Rl.push r1 (d := .obj true c [] []) (v := .ref x) (l := [x]) ⟨x, dx, [], [], rfl, upd_same, rfl, ⟨rfl, rfl⟩, rfl⟩ (by simp) (fun j a h1 h2 => by
      rw [List.mem_singleton.mp h1] at h2
      exact fpx j h2) (fun a h => by
      rw [List.mem_singleton.mp h]
      exact ⟨Same.free r.fz hx, Same.free r.pr hx⟩)
    obtain ⟨F1, fp1, g1, r3, h1, h2, h3⟩ := take_ok (acc := [some (.obj true c [] [])]) (accv := [some (.ref x)]) r2 r.len q ht
    have hl : s2.length = σ.length := h2.trans r.len
    have hp : ∀ i v, W.pn i = some v → i < s2.length := fun i v h => by
      have := r.pn i v h
      rw [hl]
      exact (List.getElem?_eq_some_iff.mp this).1
    refine ⟨F1, _, _, .obj true c [] [] :: ds, r3.split hl (pn' := pnOf (true :: pins) (.ref x :: vs)) (fun j v h => ?_), by rw [List.length_cons, List.length_cons, h1], ?_⟩
    · have := (pnOf_some h).2
      show (([some (V.ref x)] ++ vs.map some : L2.St))[j]? = _
      have e : ([some (V.ref x)] ++ vs.map some : L2.St) = (V.ref x :: vs).map some := rfl
      rw [e, List.getElem?_map, this]
      rfl
    split at p
    · rename_i c' ks xs ds' hc
      split at p
      · rename_i hb
        have hlen := Nat.eq_of_beq_eq_true hb
        rw [hc]
        refine ⟨by rw [List.length_cons, List.length_cons, hlen], fun v H' F' fp' g' r' q' => ?_⟩
        have hv : v = .non := by
          obtain ⟨l, w, _⟩ := q'
          exact w.1
        refine ⟨hv, ?_⟩
        have rj := r3.join hl g' r'
        have e0 : (s2 ++ some (D.obj true c' ks xs) :: ds')[s2.length]? = some (some (.obj true c' ks xs)) := by
          rw [List.getElem?_append_right (Nat.le_refl _), Nat.sub_self]
          rfl
        obtain ⟨u, hu, w⟩ := rj.sl s2.length _ e0
        have eu : u = .ref x := by
          rw [hl, List.getElem?_append_right (Nat.le_refl _), Nat.sub_self] at hu
          have : some (some (V.ref x)) = some (some u) := hu
          exact (Option.some.inj (Option.some.inj this)).symm
        subst eu
        have rd := rj.drop s2.length
        have es' : (s2 ++ some (D.obj true c' ks xs) :: ds').set s2.length none = s2 ++ ([none] ++ ds') := by
          rw [List.set_append_right _ _ (Nat.le_refl _), Nat.sub_self]
          rfl
        rw [es'] at rd
        obtain ⟨fp2, r4, hm⟩ := give_ok (acc := [none]) (accv := [some (.ref x)]) (F0 := F) (vs := vs) rd hl rfl q hlen h3 hp
        refine p (.ref x) H' F' fp2 (g1.trans g') r4 ⟨_, w, rj.nd _, fun j a k1 k2 => ?_, fun a ha => rj.fr _ a ha⟩
        obtain ⟨k, hk⟩ := hm j a k2
        by_cases hks : k = s2.length
        · subst hks
          rw [fset_same] at hk; cases hk
        · rw [fset_ne hks] at hk
          exact hks (rj.dj _ _ a hk k1)
      · exact p.elim
    · exact p.elim
/-- making an object, with the wish of an exception at the caller's slots -/
theorem run_makeAt {CX : CXT} {k : Nat} {f C : Addr} {fd : FuncData} {ps : List Str} {sp : Sp} {dvs : List V} {ds : List Value} {E : XK} {pins : List (Addr × Obj)} {σ : L2.St} {H : Hp} {s : Shared} {Q : VK} {us : List Value} {vs : List V} (M : Mk X.K C f) (F : FnOk X.prog X.w X.K X.mg X.base CX k f fd ps sp) (hr : Room (k + 1) X.A) (hb : Binds X.K fd ps ds) (hd : Vals dvs ds) (hx : PassesAt CX X σ E) (I : L2.Inv X pins σ H s) (r : Vals vs us)
    (h : ∀ x dx : Addr, H x = none → H dx = none → dx ≠ x → sp (V.ref x :: (vs ++ dvs)) (upd (upd H dx (HO.own x)) x (HO.ins C dx [])) (fun v H2 => v = V.non ∧ Q (V.ref x) H2) E) : wpAny (model X.prog X.w) X.A (call (Value.ref C) us) (EP X pins σ Q) X.xe s := by
  have hq := h (s.heap.objs.size + 1) s.heap.objs.size (HOk.fresh I.hok (Nat.le_succ s.heap.objs.size)) (HOk.fresh I.hok (Nat.le_refl s.heap.objs.size)) (Nat.ne_of_lt (Nat.lt_succ_self s.heap.objs.size))
  have I2 := Inv.made (C := C) I
  have r2 : Vals (V.ref (s.heap.objs.size + 1) :: (vs ++ dvs)) (Value.ref (s.heap.objs.size + 1) :: (us ++ ds)) := Paired.cons rfl (Vals.append r hd)
  have hl : (Value.ref (s.heap.objs.size + 1) :: (us ++ ds)).length = ps.length := by
    rw [← Vals.length r2]
    exact F.len _ _ _ _ hq
  refine wpAny_call (make_map (Inv.kIn I) M.makes M.init (beq_iff_eq.mp M.fn) (codeAny_mono (F.run (X.A.under (Code.builtin "type.__call__" { pos := Value.ref C :: us })) X.stack _ _ { pos := Value.ref (s.heap.objs.size + 1) :: us } (Value.ref (s.heap.objs.size + 1) :: (us ++ ds)) _ (fun v H2 => v = V.non ∧ Q (V.ref (s.heap.objs.size + 1)) H2) E (Room.make hr C us []) (Env0.make (Inv.env0 I2) C us []) (hb _ (Value.ref (s.heap.objs.size + 1) :: us) (Inv.kIn I2) hl) r2 hq) fun r s' hq' => ?_))
  cases r with
  | error e => exact hx pins _ _ e s' I2 hq'
  | ok fl =>
    cases fl with
    | ret u =>
      obtain ⟨v, H', I3, rv, ev, q3⟩ := Inv.after I2 hq'
      subst ev
      have rv : RelV .non u := rv
      exact ⟨rv, V.ref (s.heap.objs.size + 1), H', I3, rfl, q3⟩
    | _ => exact hq'.elim
/-! ### rules -/
theorem Eps.append {K : PySem.W.Frag} {F : Hp} {σ : L2.St} : ∀ {vs us : List V} {es fs : List EV}, Eps K cA F σ vs es → Eps K cA F σ us fs → Eps K cA F σ (vs ++ us) (es ++ fs)
  | [], us, es, fs, h, h' => by
    have h : es = [] := h
    subst h
    exact h'
  | v :: vs, us, es, fs, h, h' => by
    obtain ⟨e, r, rfl, h1, h2⟩ := h
    exact ⟨e, r ++ fs, rfl, h1, Eps.append h2 h'⟩
theorem Eps.vals {K : PySem.W.Frag} {F : Hp} {σ : L2.St} : ∀ {ds : List D} {vs : List V}, RepFs K cA F ds vs → (∀ d ∈ ds, d.own = false) → Eps K cA F σ vs (ds.map .val)
  | [], vs, h, _ => by
    have h : vs = [] := h
    subst h
    rfl
  | d :: ds, vs, h, ho => by
    obtain ⟨v, r, rfl, h1, h2⟩ := h
    exact ⟨.val d, _, rfl, ⟨h1, ho d (by simp)⟩, Eps.vals h2 fun x hx => ho x (List.mem_cons_of_mem _ hx)⟩
theorem lookup_no {f : Str} : ∀ {ks : List Str} {vs : List V}, ks.contains f = false → (ks.zip vs).lookup f = none
  | [], vs, _ => rfl
  | k :: ks, [], _ => rfl
  | k :: ks, v :: vs, h => by
    rw [List.contains_cons, Bool.or_eq_false_iff] at h
    rw [List.zip_cons_cons, List.lookup_cons, h.1]
    exact lookup_no h.2
/-- the parameters that the call leaves out have these values -/
structure Dfl (X : Cx) (cA : Nat → Addr) (k : Nat) (fa : Addr) (cal : List D → CR) (pins : List Bool) (dd : List D) : Prop where
  ex : ∃ fd ps dvs ds, FnOk X.prog X.w X.K X.mg X.base (L2N.CX X.prog X.w) k fa fd ps (spF X.K cA cal pins) ∧ Binds X.K fd ps ds ∧ Vals dvs ds ∧ ∀ F, RepFs X.K cA F dd dvs
  ow : ∀ d ∈ dd, d.own = false
def callDE (cal : List D → CR) (pins : List Bool) (dd : List D) (fs : List (Sl → R EV)) : Sl → R EV := fun s => (argsE fs s).bind fun es s2 => callK cal pins (es ++ dd.map .val) s2
def makeDE (cal : List D → CR) (pins : List Bool) (c : Nat) (dd : List D) (fs : List (Sl → R EV)) : Sl → R EV := fun s => (argsE fs s).bind fun es s2 => makeK cal pins c (es ++ dd.map .val) s2
def methK (tb : Nat → Option ((List D → CR) × List Bool × List D)) (m : Str) (fs : List (Sl → R EV)) (e0 : EV) (s : Sl) : R EV := match evO e0 s with
  | some (.obj _ c ks _) => if ks.contains m then .no else (match tb c with
    | some q => (argsE fs s).bind fun es s2 => callK q.1 q.2.1 (e0 :: (es ++ q.2.2.map .val)) s2
    | none => .no)
  | _ => .no
def methE (tb : Nat → Option ((List D → CR) × List Bool × List D)) (m : Str) (g : Sl → R EV) (fs : List (Sl → R EV)) : Sl → R EV := penE g (methK tb m fs)
/-- f(e, ..), some parameters left out -/
theorem se_callD {k : Nat} {fa : Addr} {cal : List D → CR} {pins : List Bool} {dd : List D} {x : Str} {p : Pos} {fs : List (Sl → R EV)} (Dk : Dfl X cA k fa cal pins dd) (hr : Room k X.A) (hg : Gl X x) (hm : X.mg x = some (.ref fa))
    (hk : PySem.W.keepIn X.K (.ref fa) = true) (tk : PaC X W) (ha : SA X cA W (e :: es) (argsE fs)) (hdb : (x == ("__debug__" : Str)) = false) (hs : (e :: es).all noStar = true) : SE X cA W (.Call (.Name x p) (e :: es) [] pos) (callDE cal pins dd fs) := by
  rw [List.all_cons, Bool.and_eq_true] at hs
  obtain ⟨⟨fd, ps, dvs, ds, Fk, hb, hd, hR⟩, how⟩ := Dk
  refine PE_mono (pe_callSD (E := fun σ cls dx H' => W.w cls dx σ H') Fk hr hg hm hk hb hd tk ha hdb (starEach_cons hs.1) (back_plain hs.2)) fun σ H Q h => ?_
  obtain ⟨F, fp, s, r, p⟩ := h
  refine ⟨F, fp, s, r, Po.bind p fun es1 s1 _ p1 vs H1 F1 fp1 g1 r1 q1 => ?_⟩
  exact call_ok r1 (q1.append (Eps.vals (hR _) how)) (Po.up g1 p1 fun _ _ _ z => KE_mono _ _ _ _ g1 z)
/-- C(e, ..) -/
theorem make_sp {k c : Nat} {fa : Addr} {cal : List D → CR} {pins : List Bool} {dd : List D} {dvs : List V} (hR : ∀ F, RepFs X.K cA F dd dvs) (how : ∀ d ∈ dd, d.own = false) {F : Hp} {fp : Nat → List Addr} {s : Sl} {σ : L2.St} {H : Hp} {Q : VK} {vs : List V} {es1 : List EV} (r : Rl X.K cA F W.P W.pn fp s σ H) (q : Eps X.K cA F σ vs es1) (p : Po X.K cA W F σ (makeK cal pins c (es1 ++ dd.map .val) s) (KE X.K cA W F σ Q)) (x dx : Addr) (h1 : H x = none) (h2 : H dx = none) (h3 : dx ≠ x) : spF X.K cA cal (true :: pins) (V.ref x :: (vs ++ dvs)) (upd (upd H dx (HO.own x)) x (HO.ins (cA c) dx [])) (fun v H2 => v = V.non ∧ Q (V.ref x) H2) fun cls dx H' => W.w cls dx σ H' :=
  make_ok r (q.append (Eps.vals (hR _) how)) p h1 h2 h3
theorem se_make {k c : Nat} {fa : Addr} {cal : List D → CR} {pins : List Bool} {dd : List D} {x : Str} {p : Pos} {fs : List (Sl → R EV)} (M : Mk X.K (cA c) fa) (Dk : Dfl X cA k fa cal (true :: pins) dd) (hr : Room (k + 1) X.A) (hg : Gl X x) (hm : X.mg x = some (.ref (cA c)))
    (tk : PaC X W) (ha : SA X cA W (e :: es) (argsE fs)) (hdb : (x == ("__debug__" : Str)) = false) (hs : (e :: es).all noStar = true) : SE X cA W (.Call (.Name x p) (e :: es) [] pos) (makeDE cal pins c dd fs) := by
  obtain ⟨⟨fd, ps, dvs, ds, Fk, hb, hd, hR⟩, how⟩ := Dk
  rw [List.all_cons, Bool.and_eq_true] at hs
  refine ⟨fun pn s σ H Q I h => ?_⟩
  obtain ⟨F, fp, s0, r, p⟩ := h
  refine wpAny_Call_Name_kw (ld_glob I hg hm ?_ hdb)
  refine PySem.W.callWith_K I.ok.mod.kin M.kp (thn (ha.run pos pn s σ H (fun vs H1 => ∀ x dx : Addr, H1 x = none → H1 dx = none → dx ≠ x → spF X.K cA cal (true :: pins) (V.ref x :: (vs ++ dvs)) (upd (upd H1 dx (HO.own x)) x (HO.ins (cA c) dx [])) (fun v H2 => v = V.non ∧ Q (V.ref x) H2) fun cls dx H' => W.w cls dx σ H') I ?_) fun us s1 hx => ?_) (starEach_cons hs.1) (back_plain hs.2)
  · exact ⟨F, fp, s0, r, Po.bind p fun es1 s1 _ p1 vs H1 F1 fp1 g1 r1 q1 => make_sp (k := k) (fa := fa) hR how r1 q1 (Po.up g1 p1 fun _ _ _ z => KE_mono _ _ _ _ g1 z)⟩
  · obtain ⟨vs, H1, I1, rv, q⟩ := hx
    exact ⟨Inv.kIn I1, run_makeAt M Fk hr hb hd (tk σ) I1 rv q⟩
theorem se_make0 {k c : Nat} {fa : Addr} {cal : List D → CR} {pins : List Bool} {dd : List D} {x : Str} {p : Pos} (M : Mk X.K (cA c) fa) (Dk : Dfl X cA k fa cal (true :: pins) dd) (hr : Room (k + 1) X.A) (hg : Gl X x) (hm : X.mg x = some (.ref (cA c)))
    (tk : PaC X W) (hdb : (x == ("__debug__" : Str)) = false) : SE X cA W (.Call (.Name x p) [] [] pos) (makeDE cal pins c dd []) := by
  obtain ⟨⟨fd, ps, dvs, ds, Fk, hb, hd, hR⟩, how⟩ := Dk
  refine ⟨fun pn s σ H Q I h => ?_⟩
  obtain ⟨F, fp, s0, r, p⟩ := h
  have p : Po X.K cA W F σ (makeK cal pins c ([] ++ dd.map .val) s0) (KE X.K cA W F σ Q) := p
  refine wpAny_Call_Name_kw (ld_glob I hg hm ?_ hdb)
  exact PySem.W.callWith_K0 I.kIn M.kp (run_makeAt (us := []) (vs := []) M Fk hr hb hd (tk σ) I .nil (make_sp (k := k) (fa := fa) hR how r (show Eps X.K cA F σ [] [] from rfl) p))
/-- what is known of a method, class by class -/
def MtOk (X : Cx) (cA : Nat → Addr) (tb : Nat → Option ((List D → CR) × List Bool × List D)) (m : Str) : Prop := ∀ c q, tb c = some q → ∃ k fa, Cls X.K (cA c) ∧ Meth X.K (cA c) m fa ∧ Dfl X cA k fa q.1 q.2.1 q.2.2 ∧ Room k X.A
/-- o.m(e, ..) -/
theorem se_meth {tb : Nat → Option ((List D → CR) × List Bool × List D)} {m : Str} {apos : Pos} {pl : Sem Bool} {fs : List (Sl → R EV)} (ho : SE X cA W o g) (hF : MtOk X cA tb m) (tk : PaC X W) (ha : SA X cA W es (argsE fs)) (hs : es.all noStar = true) (h0 : es = [] → fs = [])
    (ht : eval ((o.Attribute m apos).Call es [] pos) X.env = (do
      let ov ← eval o X.env
      standAt apos.atName
      let (f, first) ← holding [ov] (getMethod ov m pl)
      callWith pos f first (backTo pos (starEach es X.env)) (backToKw pos (keywordEach [] X.env)))) : SE X cA W (.Call (.Attribute o m apos) es [] pos) (methE tb m g fs) := by
  refine ⟨fun pn s σ H Q I h => PySem.W.methodCall_KW (thn (ho.run pn s σ H (fun x H1 => One X cA W (methK tb m fs) (fun F => KE X.K cA W F σ Q) σ x H1) I (one_run KE_mono h)) fun u s1 hx => ?_) ht⟩
  obtain ⟨x, H1, I1, rx, F, fp, s', e1, r, q, p⟩ := hx
  unfold methK at p
  split at p
  · rename_i o' c ks xs hev
    split at p
    · exact p.elim
    · rename_i hc
      split at p
      · rename_i qq hq
        obtain ⟨k, fa, hcl, hm, ⟨⟨fd, ps, dvs, ds, Fk, hb, hd, hR⟩, how⟩, hr⟩ := hF c qq hq
        obtain ⟨a, dx, vs0, rfl, h2, _⟩ := obj_field r q hev
        have hl : (ks.zip vs0).lookup m = none := lookup_no (by simpa using hc)
        have rx : u = .ref a := rx
        subst rx
        refine getmeth_ok I1 h2 hcl hm hl ?_
        have sp : ∀ {F1 : Hp} {fp1 : Nat → List Addr} {s1 : Sl} {vs : List V} {H2 : Hp} {es1 : List EV}, Same F F1 → Rl X.K cA F1 W.P W.pn fp1 s1 σ H2 → Eps X.K cA F1 σ vs es1 → Po X.K cA W F σ (callK qq.1 qq.2.1 (e1 :: (es1 ++ qq.2.2.map .val)) s1) (KE X.K cA W F σ Q) → spF X.K cA qq.1 qq.2.1 (.ref a :: (vs ++ dvs)) H2 Q fun cls dx H' => W.w cls dx σ H' := by
          intro F1 fp1 s1 vs H2 es1 g1 r1 q1 p1
          exact call_ok r1 (vs := .ref a :: (vs ++ dvs)) ⟨e1, _, rfl, q.mono g1, q1.append (Eps.vals (hR _) how)⟩ (Po.up g1 p1 fun _ _ _ z => KE_mono _ _ _ _ g1 z)
        cases es with
        | nil =>
          have z := h0 rfl
          subst z
          have p : Po X.K cA W F σ (callK qq.1 qq.2.1 (e1 :: ([] ++ qq.2.2.map .val)) s') (KE X.K cA W F σ Q) := p
          exact PySem.W.callWith_K0 I1.kIn hm.kp (run_fnSD (E := fun σ cls dx H' => W.w cls dx σ H') (vs := [.ref a]) Fk hr hb hd (tk σ) I1 (Paired.cons rfl Paired.nil) (sp (vs := []) (Same.refl F) r rfl p))
        | cons e es =>
          rw [List.all_cons, Bool.and_eq_true] at hs
          refine PySem.W.callWith_K I.ok.mod.kin hm.kp (thn (ha.run pos pn s1 σ H1 (fun vs H2 => spF X.K cA qq.1 qq.2.1 (.ref a :: (vs ++ dvs)) H2 Q fun cls dx H' => W.w cls dx σ H') I1 ?_) fun us s2 hx => ?_) (starEach_cons hs.1) (back_plain hs.2)
          · exact ⟨F, fp, s', r, Po.bind p fun es1 s1 _ p1 vs H2 F1 fp1 g1 r1 q1 => sp g1 r1 q1 p1⟩
          · obtain ⟨vs, H2, I2, rv, q2⟩ := hx
            exact ⟨Inv.kIn I2, run_fnSD (E := fun σ cls dx H' => W.w cls dx σ H') (vs := .ref a :: vs) Fk hr hb hd (tk σ) I2 (Paired.cons rfl rv) q2⟩
      · exact p.elim
  · exact p.elim
end
end NS
namespace NS
open PySem PySem.Spec PyProof.Rows L2
/-! ## methods of texts: split, join, upper -/
def strK2 (op : Str → D → Option D) (z : Str) (e2 : EV) (s : Sl) : R EV := match evR e2 s with
  | some d => (match op z d with
    | some r => .ok (.val r) s
    | none => .no)
  | none => .no
def strK (op : Str → D → Option D) (fa : Sl → R EV) (e1 : EV) (s : Sl) : R EV := match evR e1 s with
  | some (.str z) => penE fa (strK2 op z) s
  | _ => .no
def strM (op : Str → D → Option D) (fo fa : Sl → R EV) : Sl → R EV := penE fo (strK op fa)
def splitD (z : Str) : D → Option D
  | .str y => if !(y.length == 0) && fits (z.length + 2) then some (.lst true ((Txt.split z y).map .str)) else none
  | _ => none
def dstrs : List D → Option (List Str)
  | [] => some []
  | .str x :: ds => (dstrs ds).map (x :: ·)
  | _ :: _ => none
def joinD (z : Str) (d : D) : Option D := d.seq.bind fun xs => (dstrs xs).bind fun ys => if Nat.ble ((ys.map (·.length)).sum + ys.length * z.length) 16000000 then some (.str (Txt.join z ys)) else none
def upK (e1 : EV) (s : Sl) : R EV := match evR e1 s with
  | some (.str z) => if Nat.ble z.length 5000000 then .ok (.val (.str (Txt.upper z))) s else .no
  | _ => .no
def upE (fo : Sl → R EV) : Sl → R EV := penE fo upK
section
variable {X : Cx} {cA : Nat → Addr} {W : Gx} {e a b o : Expr} {es : List Expr} {f g : Sl → R EV} {pos : Pos}
theorem dstrs_ok {K : PySem.W.Frag} {F : Hp} : ∀ {xs : List D} {ys : List Str} {vs : List V}, dstrs xs = some ys → RepFs K cA F xs vs → vs = ys.map V.str
  | [], ys, vs, h, q => by
    cases h
    exact q
  | x :: xs, ys, vs, h, q => by
    cases x <;> try (cases h; done)
    rename_i z
    obtain ⟨v, r, rfl, h1, h2⟩ := q
    have h : (dstrs xs).map (z :: ·) = some ys := h
    cases h3 : dstrs xs with
    | none => rw [h3] at h; cases h
    | some zs =>
      rw [h3] at h
      cases h
      have h1 : v = .str z := h1
      rw [h1, dstrs_ok h3 h2]
      rfl
/-- what an operation of a text and another value has to keep -/
def StrOk (X : Cx) (cA : Nat → Addr) (W : Gx) (op : Str → D → Option D) (r : V → List V → Hp → VK → Prop) : Prop :=
  ∀ (F : Hp) (fp : Nat → List Addr) (s : Sl) (σ : L2.St) (H : Hp) (z : Str) (e2 : EV) (d d2 : D) (y : V) (Q : VK), Rl X.K cA F W.P W.pn fp s σ H → Ep X.K cA F σ y e2 → evR e2 s = some d2 → op z d2 = some d → KE X.K cA W F σ Q (.val d) s → r (.str z) [y] H Q
theorem strM_run {op : Str → D → Option D} {r : V → List V → Hp → VK → Prop} (ho : StrOk X cA W op r) {σ : L2.St} {H : Hp} {Q : VK} (h : tE X.K cA W (strM op f g) σ H Q) : tM1 r (tE X.K cA W f) (tE X.K cA W g) σ H Q := by
  obtain ⟨F, fp, s, rl, p⟩ := h
  obtain ⟨F0, fp0, s0, r0, p0⟩ := pen_run (C := fun F => KE X.K cA W F σ Q) (W := W) KE_mono rl p
  refine ⟨F0, fp0, s0, r0, Po.up (Same.refl _) p0 fun ev' s' _ z x H1 F' fp' g' r' q' => ?_⟩
  obtain ⟨F1, fp1, s1, e1, r1, q1, g1, p1⟩ := z x H1 F' fp' g' r' q'
  unfold strK at p1
  split at p1
  · rename_i w hw
    have hx : x = .str w := Ep.flat r1 q1 hw rfl
    refine ⟨⟨w, hx⟩, ?_⟩
    subst hx
    obtain ⟨F2, fp2, s2, r2, p2⟩ := pen_run (C := fun F => KE X.K cA W F σ Q) (W := W) KE_mono r1 p1
    refine ⟨F2, fp2, s2, r2, Po.up (Same.refl _) p2 fun ev' s' _ z y H2 F' fp' g' r' q' => ?_⟩
    obtain ⟨F3, fp3, s3, e2, r3, q3, g3, p3⟩ := z y H2 F' fp' g' r' q'
    unfold strK2 at p3
    split at p3
    · rename_i d2 hd2
      split at p3
      · rename_i d hd
        exact ho _ _ _ _ _ _ _ _ _ _ _ r3 q3 hd2 hd p3
      · exact p3.elim
    · exact p3.elim
  · exact p1.elim
theorem se_split {apos cpos : Pos} (ho : SE X cA W o f) (ha : SE X cA W a g) (hs : noStar a = true) (hb : notCall o = true) (hline : (apos.endLine == cpos.line) = true) : SE X cA W (.Call (.Attribute o "split" apos) [a] [] cpos) (strM splitD f g) := by
  have hst : starEach [a] X.env = [(false, eval a X.env)] := starEach_cons hs
  refine PE_mono (pe_split ho ha hst (attrBase_eq hb) hline) fun σ H Q h => strM_run (fun F fp s σ H z e2 d d2 y Q r q hd2 hd k => ?_) h
  unfold splitD at hd
  split at hd
  · rename_i w
    split at hd
    · rename_i hc
      cases hd
      rw [Bool.and_eq_true] at hc
      have hy : y = .str w := Ep.flat r q hd2 rfl
      subst hy
      refine ⟨z, w, rfl, rfl, by simpa using hc.1, Nat.le_trans (fits_le hc.2) LN_le, fun p hp => ?_⟩
      refine Ke.list k r hp ?_
      clear k hc
      induction (Txt.split z w) with
      | nil => rfl
      | cons a l ih => exact ⟨_, _, rfl, rfl, ih⟩
    · cases hd
  · cases hd
theorem se_join {apos cpos : Pos} (ho : SE X cA W o f) (ha : SE X cA W a g) (hs : noStar a = true) (hb : notCall o = true) (hline : (apos.endLine == cpos.line) = true) : SE X cA W (.Call (.Attribute o "join" apos) [a] [] cpos) (strM joinD f g) := by
  have hst : starEach [a] X.env = [(false, eval a X.env)] := starEach_cons hs
  refine PE_mono (pe_join ho ha hst (attrBase_eq hb) hline) fun σ H Q h => strM_run (fun F fp s σ H z e2 d d2 y Q r q hd2 hd k => ?_) h
  unfold joinD at hd
  obtain ⟨xs, h1, hd⟩ := Option.bind_eq_some_iff.mp hd
  obtain ⟨ys, h2, hd⟩ := Option.bind_eq_some_iff.mp hd
  split at hd
  · rename_i hc
    cases hd
    obtain ⟨a, vs, rfl, h3, h4⟩ := Ep.seq r q hd2 h1
    have := dstrs_ok h2 h4
    subst this
    exact ⟨z, a, ys, rfl, rfl, .inl h3, Nat.le_trans (Nat.le_of_ble_eq_true hc) (by decide), Ke.fin k r rfl rfl⟩
  · cases hd
theorem se_upper {apos cpos : Pos} (ho : SE X cA W o f) (hb : notCall o = true) (hline : (apos.endLine == cpos.line) = true) : SE X cA W (.Call (.Attribute o "upper" apos) [] [] cpos) (upE f) := by
  refine PE_mono (pe_upper ho (attrBase_eq hb) hline) fun σ H Q h => ?_
  obtain ⟨F, fp, s, rl, p⟩ := h
  obtain ⟨F0, fp0, s0, r0, p0⟩ := pen_run (C := fun F => KE X.K cA W F σ Q) (W := W) KE_mono rl p
  refine ⟨F0, fp0, s0, r0, Po.up (Same.refl _) p0 fun ev' s' _ z x H1 F' fp' g' r' q' => ?_⟩
  obtain ⟨F1, fp1, s1, e1, r1, q1, g1, p1⟩ := z x H1 F' fp' g' r' q'
  unfold upK at p1
  split at p1
  · rename_i w hw
    have hx : x = .str w := Ep.flat r1 q1 hw rfl
    subst hx
    split at p1
    · rename_i hc
      exact ⟨⟨w, rfl⟩, w, rfl, rfl, Nat.le_trans (Nat.le_of_ble_eq_true hc) (by decide), Ke.fin p1 r1 rfl rfl⟩
    · exact p1.elim
  · exact p1.elim
end
theorem meth_eval {o : Expr} {m : Str} {apos pos : Pos} {es : List Expr} {env : Env} (hb : notCall o = true) (hline : (apos.endLine == pos.line) = true) (hs : es.all noStar = true) (hn : es.length < 30) : eval ((o.Attribute m apos).Call es [] pos) env = (do
      let ov ← eval o env
      standAt apos.atName
      let (f, first) ← holding [ov] (getMethod ov m (do
        let b ← importBound o env
        pure (b.getD true)))
      callWith pos f first (backTo pos (starEach es env)) (backToKw pos (keywordEach [] env))) := by
  have h1 : ((backTo pos (starEach es env)).all fun x => !x.fst) = true := by
    have := back_plain (env := env) (pos := pos) hs
    rw [List.all_eq_not_any_not]
    simpa using this
  have few : methodCallForm (es.length + ([] : List Keyword).length) (backTo pos (starEach es env)) (backToKw pos (keywordEach [] env)) = true := by
    unfold methodCallForm
    rw [h1]
    have e2 : backToKw pos (keywordEach [] env) = [] := rfl
    rw [e2]
    simpa using hn
  have e : eval ((o.Attribute m apos).Call es [] pos) env = (do
      let ov ← attributeBase o m env (eval o env)
      standAt apos.atName
      methodCall o m apos pos env ov (es.length + ([] : List Keyword).length) (backTo pos (starEach es env)) (backToKw pos (keywordEach [] env))) := by
    rfl
  rw [e, attrBase_eq hb]
  unfold methodCall
  rw [few]
  unfold calleeOf methodCallPos
  rw [hline]
  rfl
end NS
namespace NX
open PySem PySem.W PySem.Calls PyProof.Rows PySem.HandSPX
/-! ## an error of the program's own: __init__(self, f): super().__init__("text"); self.f = f -/
def iA (f : Str) (p1 p2 : Pos) : Arguments := { posonlyargs := [], args := [{ arg := "self", annotation := none, pos := p1 }, { arg := f, annotation := none, pos := p2 }], vararg := none, kwonlyargs := [], kw_defaults := [], kwarg := none, defaults := [] }
def iB (f msg : Str) (k : Nat) (q : Nat → Pos) : List Stmt := [.Expr (.Call (.Attribute (.Call (.Name "super" (q 0)) [] [] (q 1)) "__init__" (q 2)) [.Constant (.str msg) k (q 3)] [] (q 4)) (q 5), .Assign [.Attribute (.Name "self" (q 6)) f (q 7)] (.Name f (q 8)) (q 9)]
def iS (f : Str) : Scope := { kind := .function, names := [("self", .local), (f, .local), ("__class__", .free), ("super", .globalImplicit)], isGenerator := false, isCoroutine := false, more := [] }
/-- what the written part says of the error class C, and of its __init__, at fI -/
structure ExTxt (prog : Program) (K : Frag) (C fI : Addr) (f : Str) : Prop where
  cls : ∃ nm q N bs bm sn sub ab col dd k0 k1 k2 k3 k5, K.lookup C = some (excClassObj nm q C N bs bm true sn sub ab col dd k0 k1 k2 k3 k5 "ValueError.__new__") ∧ refsVE bm = true
  sa : findIn K (.ref C) "__setattr__" = some (some (.builtin "object.__setattr__"))
  noN : findIn K (.ref C) f = some none
  iC : findIn K (.ref C) "__init__" = some (some (.ref fI))
  tC : typeIn K (.ref fI) = some (.type "function")
  kC : keepIn K (.ref C) = true
  exC : subIn K (.ref C) (.type "BaseException") = some true
  exV : subIn K (.ref C) (.type "ValueError") = some true
  tyC : typeIn K (.ref C) = some (.type "type")
  hdC : hasDictIn K C = true
  op : nsIn K cStatics "thirdparty.any" = some none
  su : ks_superIn K C C "__init__" = some (some (.builtin "ValueError.__init__"))
  mr : mroIn K C (.ref C) = some true
  nf : f = "at" ∨ f = "what"
  fn : ∃ (oc : Value) (od : Option Addr) (doc pm : Value) (an : Option Addr) (cda : Addr) (ct : Value) (osl : Array (Option Value)) (p1 p2 : Pos) (q : Nat → Pos) (msg qual : Str) (k : Nat) (cc : Addr) (ccl : Value) (cdd : Option Addr) (ccs : Array (Option Value)) (vs : Array Value) (file : Str) (tf : Tok) (cl : Value) (cld : Option Addr) (csl : Array (Option Value)),
    K.lookup fI = some ⟨oc, od, .func (ksFn "__init__" qual (iA f p1 p2) (iB f msg k q) (iS f) .none .none doc pm an (.ref cda) ct cc), osl⟩ ∧ codeIn K (.ref cda) qual = true ∧
    K.lookup cda = some ⟨ccl, cdd, .fields vs, ccs⟩ ∧ vs[2]? = some (.str file tf) ∧ ((prog.main.file : Str) == file) = true ∧ K.lookup cc = some ⟨cl, cld, .cell (some (.ref C)), csl⟩ ∧ ((q 2).endLine == (q 4).line) = true
  top : (prog.main.scope.names.lookup ("super" : Str)).isSome = false
/-- what __init__ leaves of a fresh exception at x -/
structure InitEnd (h h' : Heap) (x C dx t1 : Addr) (f : Str) (v : Value) : Prop where
  keep : ∀ b o, b ≠ x → h.get? b = some o → h'.get? b = some o
  obj : h'.get? x = some { cls := .ref C, dict := some dx, data := .fields #[.ref t1, .none, .none, .none, .bool false, .none] }
  dbig : h.objs.size ≤ dx
  dne : dx ≠ x
  ns : h'.Ns1 dx (fun y => if y = f then some v else none)
section
variable {prog : Program} {w : World} {A : Around} {E : Value → Shared → Prop} {R : Result → Shared → Prop} {s : Shared} {K : Frag} {mg mb : Str → Option Value} {C fI : Addr} {f : Str}
theorem call_line {o : Expr} {m : Str} {apos pos : Pos} {env : Env} {cst : Const} {kk : Nat} {p3 : Pos} (hl : (apos.endLine == pos.line) = true) : eval (.Call (.Attribute o m apos) [.Constant cst kk p3] [] pos) env = (do
      let ov ← attributeBase o m env (eval o env)
      standAt apos.atName
      let (f, first) ← holding [ov] (getMethod ov m (L2.plainOf o env))
      callWith pos f first (backTo pos (starEach [.Constant cst kk p3] env)) []) := by
  show (attributeBase o m env (eval o env) >>= fun ov => standAt apos.atName >>= fun _ => methodCall o m apos pos env ov _ _ _) = _
  refine congrArg (attributeBase o m env (eval o env) >>= ·) (funext fun ov => congrArg (standAt apos.atName >>= ·) (funext fun _ => ?_))
  exact L2.mcall_line rfl hl
theorem ex_init (T : ExTxt prog K C fI f) {x t0 : Addr} {v : Value} (X : K.In s.heap) (hlim : s.heap.NoLimit) (hg : s.heap.Ns mainGlobals mg) (hb : s.heap.Ns builtinsNs mb) (hms : mg "super" = none) (hmb : mb "super" = some (.type "super")) (hx : s.heap.get? x = some (excO C t0)) (hnx : K.lookup x = none) (hroom : A.depth < recursionLimit)
    (hq : ∀ h' tk dx t1, InitEnd s.heap h' x C dx t1 f v → R (.ok (.ret .none)) { s with heap := h', toks := tk }) :
    codeAny (model prog w) A (.call (.ref fI) ⟨[.ref x, v], []⟩) R s := by
  obtain ⟨oc, od, doc, pm, an, cda, ct, osl, p1, p2, q, msg, qual, k, cc, ccl, cdd, ccs, vs, file, tf, cl, cld, csl, ho, hcd, hcode, hvs, hfile, hcell, hline⟩ := T.fn
  obtain ⟨nm, qn, N, bs, bm, sn, sub, ab, col, dd, k0, k1, k2, k3, k5, hC, hbm⟩ := T.cls
  have hcl : clsIn K C = some { name := nm, bases := bs, mro := .ref C :: bm, ns := N, qualname := qn, hasDict := true, slotNames := sn, subclasses := sub, abstract := ab, collection := col, hasDel := false } := by unfold clsIn; rw [hC] <;> rfl
  have ls : (iS f).names.lookup ("super" : Str) = some .globalImplicit := by rcases T.nf with rfl | rfl <;> rfl
  have lc : (iS f).names.lookup ("__class__" : Str) = some .free := by rcases T.nf with rfl | rfl <;> rfl
  have lf : (iS f).names.lookup f = some .local := by rcases T.nf with rfl | rfl <;> rfl
  have lself : (iS f).names.lookup ("self" : Str) = some .local := rfl
  have hdbg : (f == ("__debug__" : Str)) = false := by rcases T.nf with rfl | rfl <;> decide
  have hself : ([("self", Value.ref x), (f, v)] : List (Str × Value)).reverse.lookup ("self" : Str) = some (.ref x) := by rcases T.nf with rfl | rfl <;> rfl
  have hfv : ([("self", Value.ref x), (f, v)] : List (Str × Value)).reverse.lookup f = some v := by rcases T.nf with rfl | rfl <;> rfl
  refine ks_codeAny_call_defAt (fd := ksFn "__init__" qual (iA f p1 p2) (iB f msg k q) (iS f) .none .none doc pm an (.ref cda) ct cc) (body := iB f msg k q) (binds := [("self", .ref x), (f, v)]) hroom (X _ _ ho) rfl hlim (codeRec_of X hcd) rfl (BindsTo.of_eq (by rcases T.nf with rfl | rfl <;> first | rfl | with_unfolding_all rfl)) (fun y hy => ?_) (fun y hy => ?_) (fun h₁ hns k₁ => ?_)
  · simp [iS] at hy
    rcases hy with rfl | rfl | rfl | rfl <;> (intro z; cases z)
  · simp at hy
    rcases hy with rfl | rfl
    · exact lself
    · exact lf
  have X₁ : K.In h₁ := X.keeps k₁
  have hx₁ := k₁ _ _ hx
  have hxL : s.heap.objs.size ≠ x := Nat.ne_of_gt (Heap.lt_size hx)
  have hC₁ := X₁ _ _ hC
  -- super().__init__(msg)
  refine ks_wpAt_execs_cons (ks_wpAt_Expr_any (ks_wpAt_MethodCall ?_ (call_line hline)))
  refine ks_wpAt_super_base (f := fI) (cc := cda) ls lc rfl rfl (X₁ _ _ ho) rfl rfl rfl (X₁ _ _ hcode) rfl hvs hfile T.top ?_
  refine ks_loadName_global rfl ls (loadGlobal_builtin (hg.keeps k₁) hms (hb.keeps k₁) hmb ⟨rfl, ?_⟩)
  refine wpAny_loadName_free rfl lc rfl ⟨_, X₁ _ _ hcell, rfl⟩ ?_
  refine wpAny_loadName_local rfl lself hns hself ?_
  refine ks_wpAny_isType_cls hC₁ rfl ⟨rfl, ?_⟩
  refine ks_wpAny_call_super hC₁ rfl hx₁ rfl (fun c e => by cases e) (looks_mroIn X₁ T.mr) (fun h₂ e₂ k₂ => ?_)
  have X₂ : K.In h₂ := X₁.keeps k₂
  have hx₂ := k₂ _ _ hx₁
  have I₂ : InstAt h₂ x (excO C t0) C none := ⟨hx₂, rfl, rfl, trivial⟩
  have hV : Looks (model prog w) h₂ (isInstance (.ref x) (.type "ValueError")) true := I₂.type.andThen (looks_subIn X₂ T.exV)
  have hal : alongIn K "__init__" ((((.ref C :: bm) : List Value).dropWhile (· != .ref C)).drop 1) = some (some (.builtin "ValueError.__init__")) := by
    have := T.su
    unfold ks_superIn at this
    rw [hcl] at this
    exact this
  have hxC : x ≠ C := fun z => by
    rw [z, hC] at hnx
    cases hnx
  refine kxs_getMethod kxs_ValueError e₂ (looks_opaque X₂ T.op) (l₀ := .ref C :: bm) (fun A Q E s k q => wpAny_bind ((looks_clsIn X₂ hcl) A _ E s k (wpAny_pure q))) rfl X₂ hal hV hxC rfl ?_
  have hu₃ : (h₂.push (kxs_mw "ValueError.__init__" x)).get? h₂.objs.size = some (kxs_mw "ValueError.__init__" x) := Heap.get?_push_at rfl rfl
  have k₃ : ∀ b o, h₂.get? b = some o → (h₂.push (kxs_mw "ValueError.__init__" x)).get? b = some o := fun b o e => Heap.get?_push_of_some _ e
  generalize h₂.push (kxs_mw "ValueError.__init__" x) = h₃ at hu₃ k₃ ⊢
  have X₃ : K.In h₃ := X₂.keeps k₃
  have hx₃ := k₃ _ _ hx₂
  refine kxs_callWith (i := "ValueError.__init__") (x := x) rfl (evalArgs_plain (spliced_cons (wpAny_Constant_str (k := k) (pos := q 3) (spliced_nil ⟨hu₃, ?_⟩))))
  refine wpAny_call (codeAny_of_tree ?_)
  show wpAny _ _ (callAny (.ref h₂.objs.size) ⟨[_], []⟩) _ _ _
  simp only [callAny]
  refine wpAny_bind (wpAny_load hu₃ ?_)
  simp only [kxs_mw, show (Value.type "method-wrapper" == Value.type "method" || Value.type "method-wrapper" == Value.type "builtin_function_or_method" || Value.type "method-wrapper" == Value.type "method-wrapper") = true by decide, if_true]
  refine KFB.if_so (by decide) ?_
  refine wpAny_bind (check_bound_init PySem.F.excBase_ValueError.toExcCallFacts (X₃ _ _ hC) hx₃ rfl ?_)
  refine wpAny_bind (wpAny_pure (wpAny_pure ?_))
  refine ⟨plainId_quiet PySem.F.excBase_ValueError.init.plain _, codeAny_builtin PySem.F.excBase_ValueError.initEntry ?_⟩
  refine exc_init_tree (cls := .ref C) (t0 := t0) (dv := none) (c2 := .none) (c3 := .none) (b4 := .bool false) hx₃ (by rw [sizeLine_eq]; exact (by decide : 1 ≤ 16777216)) (fun h₄ k₄ e₄ t₄ => ?_)
  have hn₄ : h₄.Ns s.heap.objs.size (fun y => ([("self", Value.ref x), (f, v)] : List (Str × Value)).reverse.lookup y) := by
    obtain ⟨oL, es, ep, hL, r⟩ := hns
    exact ⟨oL, es, ep, k₄ _ _ hxL (k₃ _ _ (k₂ _ _ hL)), r⟩
  have X₄ : K.In h₄ := fun a o e => k₄ a o (fun z => by rw [z, hnx] at e; cases e) (X₃ a o e)
  refine ks_wpAt_execs_cons (ks_wpAt_Assign_Attr (wpAt_of_wpAny ?_))
  refine wpAny_Name ?_ hdbg
  refine wpAny_loadName_local rfl lf hn₄ hfv ?_
  refine wpAny_Name ?_ (by decide)
  refine wpAny_loadName_local rfl lself hn₄ hself ?_
  refine set_plain X₄ (ox := excO C h₃.objs.size) (od := none) ⟨e₄, rfl, rfl, trivial⟩ T.sa ?_
  refine exc_osa X₄ e₄ hcl (show refsVE (.ref C :: bm) = true from hbm) rfl T.noN (fun h₅ tk₅ dx k₅ dn dne hx₅ hn₅ => ?_)
  refine wpAt_of_wpAny (wpAny_execs_nil (hq h₅ tk₅ dx h₃.objs.size ⟨fun b o hb e => k₅ b o hb (k₄ b o hb (k₃ b o (k₂ b o (k₁ b o e)))), hx₅, ?_, dne, hn₅⟩))
  exact Nat.le_trans (Nat.le_of_lt hn₄.lt) dn
/-- a made error -/
structure OwnMade (h h' : Heap) (e C d : Addr) (f : Str) (v : Value) : Prop where
  keep : ∀ b o, h.get? b = some o → h'.get? b = some o
  new : h.objs.size ≤ e
  obj : ∃ oe vs, h'.get? e = some oe ∧ oe.cls = .ref C ∧ oe.dict = some d ∧ oe.data = .fields vs ∧ vs[1]? = some .none ∧ PySem.PXN.CtxN oe
  dbig : h.objs.size ≤ d
  dne : d ≠ e
  ns : h'.Ns1 d (fun y => if y = f then some v else none)
theorem one_size (v : Value) : [v].length ≤ sizeLine := by
  rw [sizeLine_eq]
  exact (by decide : 1 ≤ 16777216)
theorem ex_made (T : ExTxt prog K C fI f) {v : Value} (X : K.In s.heap) (hlim : s.heap.NoLimit) (hg : s.heap.Ns mainGlobals mg) (hb : s.heap.Ns builtinsNs mb) (hms : mg "super" = none) (hmb : mb "super" = some (.type "super")) (hroom : A.depth + 1 < recursionLimit)
    (hq : ∀ h' tk e d, OwnMade s.heap h' e C d f v → R (.ok (.ret (.ref e))) { s with heap := h', toks := tk }) :
    codeAny (model prog w) A (.call (.ref C) ⟨[v], []⟩) R s := by
  obtain ⟨nm, q, N, bs, bm, sn, sub, ab, col, dd, k0, k1, k2, k3, k5, hC, hbm⟩ := T.cls
  obtain ⟨hp, g, dr, tk, os⟩ := s
  have k : ∀ b o, hp.get? b = some o → ((hp.push (kdv_tup [v])).push (excO C hp.objs.size)).get? b = some o := fun b o e => Heap.get?_push_of_some _ (Heap.get?_push_of_some _ e)
  have hget : ((hp.push (kdv_tup [v])).push (excO C hp.objs.size)).get? (hp.objs.size + 1) = some (excO C hp.objs.size) := by heap_get
  have hnx : K.lookup (hp.objs.size + 1) = none := by
    cases e : K.lookup (hp.objs.size + 1) with
    | none => rfl
    | some o =>
      have z : hp.get? (hp.objs.size + 1) = some o := X _ _ e
      exact absurd (Nat.lt_of_succ_lt (Heap.lt_size z)) (Nat.lt_irrefl _)
  refine call_own F.excBase_ValueError (fun X => refsVE_contains X bm hbm) (X _ _ hC) (looks_findIn X T.iC) (fun self => bind_fn X self T.tC) (one_size v) ?_
  refine ex_init (s := ⟨(hp.push (kdv_tup [v])).push (excO C hp.objs.size), g, dr, tk, os⟩) T (X.keeps k) (hlim.keeps k) (hg.keeps k) (hb.keeps k) hms hmb hget hnx ?_ fun h' tk' dx t1 ⟨k', hx, dn, dne, hns⟩ => ?_
  · show A.depth + 1 < recursionLimit
    exact hroom
  · have old : ∀ b o, hp.get? b = some o → h'.get? b = some o := fun b o e => k' b o (Nat.ne_of_lt (Nat.lt_succ_of_lt (Heap.lt_size e))) (k b o e)
    have z : hp.objs.size + 1 + 1 ≤ dx := by
      first
        | (simpa only [Heap.size_push] using dn)
        | exact dn
        | (have q := dn; rw [Heap.size_push, Heap.size_push] at q; exact q)
    exact ⟨rfl, hq h' tk' (hp.objs.size + 1) dx ⟨old, Nat.le_succ _, ⟨_, _, hx, rfl, rfl, rfl, rfl, fun vs e => by cases e; rfl⟩, Nat.le_trans (Nat.le_trans (Nat.le_succ _) (Nat.le_succ _)) z, dne, hns⟩⟩
end
end NX
namespace NX
open PySem PySem.Spec PyProof.Rows L2
/-! ## raise C(e) -/
theorem relO_ex {f : Str} {v : V} {v' : Value} (r : RelV v v') (g : Str) : RelO (List.lookup g [(f, v)]) (if g = f then some v' else none) := by
  by_cases hw : g = f
  · subst hw
    rw [if_pos rfl]
    have q : List.lookup g [(g, v)] = some v := by simp [List.lookup]
    rw [q]
    exact r
  · rw [if_neg hw]
    have qw : (g == f) = false := by simpa using hw
    have q2 : List.lookup g [(f, v)] = none := by simp [List.lookup, qw]
    rw [q2]
    trivial
section
variable {X : Cx} {C fI : Addr} {f : Str}
/-- C(e) -/
def tMkEx (C : Addr) (f : Str) (ta : TA) : L2.St → Hp → XK → Prop := fun σ H Q => ta σ H fun vs H1 => ∃ v, vs = [v] ∧ ∀ d, H1 d = none → Q (.ref C) (some d) (upd H1 d (.xd [(f, v)]))
theorem pmk_ex {x : Str} {a : Expr} {ta : TA} {p pos : Pos} {k : Nat} (T : ExTxt X.prog X.K C fI f) (hr : Room k X.A) (ha : PA X [a] ta) (hg : Gl X x) (hm : X.mg x = some (.ref C)) (hs : X.mg "super" = none)
    (hdb : (x == ("__debug__" : Str)) = false) (he : starEach (a :: []) X.env = (false, eval a X.env) :: starEach [] X.env) (hpl : (backTo pos (starEach [] X.env)).any (·.1) = false := by rfl) :
    L2N.PMk X (.Call (.Name x p) [a] [] pos) (tMkEx C f ta) := by
  intro pins s σ H Q I h
  refine wpAny_Call_Name_kw (ld_glob I hg hm ?_ hdb)
  refine PySem.W.callWith_K (h₀ := X.base) I.ok.mod.kin T.kC (thn (ha.run pos pins s σ H _ I h) fun us s1 hh => ?_) he hpl
  obtain ⟨vs, H1, I1, r1, v, ev, q1⟩ := hh
  subst ev
  refine ⟨I1.kIn, ?_⟩
  cases r1 with
  | cons rv rn =>
    rename_i v' us'
    cases rn
    show wpAny _ _ (call (.ref C) [v']) _ _ _
    have hlim := I1.nolimit
    have hgl := I1.mod.glob.keeps I1.bk
    obtain ⟨mb, hb1, hb2⟩ := I1.mod.blt
    have hb1 := hb1.keeps I1.bk
    have hmb : mb "super" = some (.type "super") := (hb2 "super" (by decide)).trans (by kernel_rfl)
    obtain ⟨hp, g, dr, tk, os⟩ := s1
    refine wpAny_call (ex_made T I1.kIn hlim hgl hb1 hs hmb (by have := hr.dp; omega) fun h' tk' e d M => ?_)
    show L2N.MkP X pins σ Q (.ref e) ⟨h', g, dr, tk', os⟩
    obtain ⟨oe, fv, hoe, hc, hd, hdat, h1, hctx⟩ := M.obj
    have hns := M.ns
    obtain ⟨G', g1, g2⟩ := restrict h' fun b => decide (b ≠ e)
    have gk : ∀ b, b ≠ e → G'.get? b = h'.get? b := fun b hb => g1 b (decide_eq_true hb)
    have ge : G'.get? e = none := g2 e (by simp)
    have old : ∀ b o, hp.get? b = some o → G'.get? b = some o := fun b o q => (gk b (Nat.ne_of_lt (Nat.lt_of_lt_of_le (Heap.lt_size q) M.new))).trans (M.keep b o q)
    have ob : ObjOk X.prog X.w (upd H1 d (.xd [(f, v)])) G' d (.xd [(f, v)]) :=
      ⟨_, hns.at (fun o q => (gk d M.dne).trans q), fun g => relO_ex rv g⟩
    have J : Inv X pins σ (upd H1 d (.xd [(f, v)])) ⟨G', g, dr, tk', os⟩ := I1.laid (t' := tk') old M.dbig ob
    refine ⟨e, oe, fv, ⟨G', g, dr, tk', os⟩, _, .ref C, some d, rfl, J, fun b o q => ?_, ge, hoe, ⟨hc, hd, hctx⟩, hdat, h1, ?_, rfl, I1.bare, raises_own T.exC T.tyC, q1 d (I1.hok.fresh M.dbig)⟩
    · by_cases hb : b = e
      · have q' : G'.get? b = some o := q
        rw [hb, ge] at q'; cases q'
      · exact (gk b hb).symm.trans q
    · rw [upd_ne (Ne.symm M.dne)]
      exact I1.hok.fresh M.new
end
end NX
namespace NS
open PySem PySem.Spec PyProof.Rows L2
/-- raise C(e), C the class c of errors, f its field -/
def raiseK (c : Nat) (f : Str) (es : List EV) (s : Sl) : Fl := match evVs es s with
  | some ([d], s2) => .ex ⟨c, [(f, d)]⟩ s2
  | _ => .no
def raiseE (c : Nat) (f : Str) (fe : Sl → R EV) : Sl → Fl := fun s => (argsE [fe] s).to (raiseK c f)
section
variable {X : Cx} {cA : Nat → Addr} {W : Gx} {e : Expr} {fe : Sl → R EV} {fI : Addr} {f x : Str} {c : Nat} {p pos pos2 : Pos} {k : Nat}
theorem ss_raise (hc : X.calm = true) (tk : L2N.Takes X W.w) (T : NX.ExTxt X.prog X.K (cA c) fI f) (hr : Room k X.A) (hg : Gl X x) (hm : X.mg x = some (.ref (cA c))) (hs : X.mg "super" = none) (hdb : (x == ("__debug__" : Str)) = false)
    (ha : SE X cA W e fe) (hst : noStar e = true) : SS X cA W (.Raise (some (.Call (.Name x p) [e] [] pos)) none pos2) (raiseE c f fe) := by
  have hA : SA X cA W [e] (argsE [fe]) := sa_cons ha sa_nil hst
  refine PS_mono (L2N.ps_raise hc tk (NX.pmk_ex T hr hA hg hm hs hdb (starEach_cons hst))) fun D σ H h => ?_
  obtain ⟨F, fp, s, r, q⟩ := h
  refine ⟨F, fp, s, r, PoS.to q fun es s1 _ q1 vs H1 F1 fp1 g1 r1 q2 => ?_⟩
  unfold raiseK at q1
  split at q1
  · rename_i d s2 hd
    obtain ⟨F2, fp2, g2, r2, q3⟩ := Eps.evVs r1 q2 hd
    obtain ⟨v, r, rfl, h1, rfl⟩ := q3
    exact ⟨v, rfl, fun dd hdd => q1 _ _ σ _ F2 fp2 (g1.trans g2) (r2.new hdd (.xd [(f, v)])) ⟨rfl, dd, [v], rfl, Same.free r2.fz hdd, upd_same, v, [], rfl, h1, rfl⟩⟩
  · exact q1.elim
end
end NS
namespace NS
open PySem PySem.Spec PyProof.Rows L2
/-! ## try: .. except C as n: suite -/
section
variable {K : PySem.W.Frag} {cA : Nat → Addr} {F P H : Hp} {pn : Nat → Option V} {fp : Nat → List Addr} {s : Sl} {σ : L2.St}
mutual
theorem Vl.nox : ∀ (d : D) (v : V) (l : List Addr), Vl K cA F H d v l → ∀ a ∈ l, ∀ fs, H a ≠ some (.xd fs)
  | .lst true xs, v, l, h, a, ha, fs, e => by
    obtain ⟨b, vs, _, h1, _, rfl⟩ := h
    rw [List.mem_singleton.mp ha, h1] at e
    cases e
  | .dct true ks xs, v, l, h, a, ha, fs, e => by
    obtain ⟨b, vs, _, h1, _, _, rfl⟩ := h
    rw [List.mem_singleton.mp ha, h1] at e
    cases e
  | .obj true c ks xs, v, l, h, a, ha, fs, e => by
    obtain ⟨b, dx, vs, ls, _, h1, _, h2, rfl⟩ := h
    rcases List.mem_cons.mp ha with rfl | ha
    · rw [h1] at e
      cases e
    · exact Vls.nox xs vs ls h2 a ha fs e
  | .non, v, l, h, a, ha, fs, e => by
    have h : _ ∧ l = [] := h
    rw [h.2] at ha
    cases ha
  | .bl _, v, l, h, a, ha, fs, e => by
    have h : _ ∧ l = [] := h
    rw [h.2] at ha
    cases ha
  | .int _, v, l, h, a, ha, fs, e => by
    have h : _ ∧ l = [] := h
    rw [h.2] at ha
    cases ha
  | .str _, v, l, h, a, ha, fs, e => by
    have h : _ ∧ l = [] := h
    rw [h.2] at ha
    cases ha
  | .tup _, v, l, h, a, ha, fs, e => by
    have h : _ ∧ l = [] := h
    rw [h.2] at ha
    cases ha
  | .ro _, v, l, h, a, ha, fs, e => by
    have h : _ ∧ l = [] := h
    rw [h.2] at ha
    cases ha
  | .lst false _, v, l, h, a, ha, fs, e => by
    have h : _ ∧ l = [] := h
    rw [h.2] at ha
    cases ha
  | .dct false _ _, v, l, h, a, ha, fs, e => by
    have h : _ ∧ l = [] := h
    rw [h.2] at ha
    cases ha
  | .obj false _ _ _, v, l, h, a, ha, fs, e => by
    have h : _ ∧ l = [] := h
    rw [h.2] at ha
    cases ha
theorem Vls.nox : ∀ (ds : List D) (vs : List V) (l : List Addr), Vls K cA F H ds vs l → ∀ a ∈ l, ∀ fs, H a ≠ some (.xd fs)
  | [], vs, l, h, a, ha, fs, e => by
    have h : vs = [] ∧ l = [] := h
    rw [h.2] at ha
    cases ha
  | d :: ds, vs, l, h, a, ha, fs, e => by
    obtain ⟨v, r, l1, l2, _, h1, h2, rfl⟩ := h
    rcases List.mem_append.mp ha with ha | ha
    · exact Vl.nox d v l1 h1 a ha fs e
    · exact Vls.nox ds r l2 h2 a ha fs e
end
theorem Rl.nox (r : Rl K cA F P pn fp s σ H) {a : Addr} {fs : List (Str × V)} (h : H a = some (.xd fs)) (i : Nat) : a ∉ fp i := fun ha => by
  cases e : s[i]? with
  | none => rw [r.nl i (fun d z => by rw [e] at z; cases z)] at ha; cases ha
  | some x =>
    cases x with
    | none => rw [r.nl i (fun d z => by rw [e] at z; cases z)] at ha; cases ha
    | some d =>
      obtain ⟨v, _, q⟩ := r.sl i d e
      exact Vl.nox d v _ q a ha fs h
/-- other slots keep their value -/
theorem Rl.pins (r : Rl K cA F P pn fp s σ H) {pn' : Nat → Option V} (h : ∀ i v, pn' i = some v → σ[i]? = some (some v)) : Rl K cA F P pn' fp s σ H := ⟨r.len, r.fz, r.pr, r.sl, r.nl, r.nd, r.dj, r.fr, h, r.fd⟩
end
/-- the slot i is forgotten at the end -/
def Fl.lose (i : Nat) : Fl → Fl
  | .nx s => .nx (s.set i none)
  | .bk s => .bk (s.set i none)
  | .ct s => .ct (s.set i none)
  | .ex _ _ => .no
  | r => r
def atm : D → Bool
  | .non => true
  | .bl _ => true
  | .int _ => true
  | .str _ => true
  | _ => false
/-- an exception's fields: numbers, texts, truth values -/
def xflat (x : Xn) : Bool := x.at_.all fun p => atm p.2
/-- try: b except C as (slot i): h, C what mt tells -/
def tryS (mt : Nat → Option Bool) (i : Nat) (b : Sl → Fl) (h : Xn → Sl → Fl) : Sl → Fl := fun s => match b s with
  | .ex x s1 => (match mt x.c with
    | some true => if xflat x && Nat.blt i s1.length then (h x (s1.set i none)).lose i else .no
    | some false => .ex x s1
    | none => .no)
  | r => r
/-- what holds in the suite of the exception x (its object at a, its dict at dd) -/
def suG (W : Gx) (i : Nat) (a dd : Addr) (fs : List (Str × V)) : Gx := ⟨fun _ _ _ _ => False, upd W.P dd (.xd fs), fun j => if j = i then some (.ref a) else W.pn j⟩
/-- data without a place, as a value -/
def fv : D → V
  | .bl b => .bl b
  | .int i => .int i
  | .str x => .str x
  | _ => .non
def fsOf (x : Xn) : List (Str × V) := x.at_.map fun p => (p.1, fv p.2)
section
variable {K : PySem.W.Frag} {cA : Nat → Addr} {F P H : Hp} {pn : Nat → Option V} {fp : Nat → List Addr} {s : Sl} {σ : L2.St}
theorem fv_ok {d : D} {v : V} (h : atm d = true) (q : RepF K cA F d v) : v = fv d := by
  cases d <;> first | exact q | cases h
theorem fv_rep {d : D} (h : atm d = true) : RepF K cA F d (fv d) := by
  cases d <;> first | rfl | cases h
theorem fs_ok : ∀ {l : List (Str × D)} {vs : List V}, (l.all fun p => atm p.2) = true → RepFs K cA F (l.map Prod.snd) vs → (l.map Prod.fst).zip vs = l.map fun p => (p.1, fv p.2)
  | [], vs, _, q => rfl
  | (n, d) :: l, vs, h, q => by
    obtain ⟨v, r, rfl, h1, h2⟩ := q
    rw [List.all_cons, Bool.and_eq_true] at h
    rw [List.map_cons, List.zip_cons_cons, fs_ok h.2 h2, fv_ok h.1 h1]
    rfl
/-- a slot is forgotten by value; the slot itself is anything -/
theorem Rl.dropS (r : Rl K cA F P pn fp s σ H) {i : Nat} (hp : pn i = none) (u : Option V) : Rl K cA F P pn (fset fp i []) (s.set i none) (σ.set i u) H := by
  have d := r.drop i
  refine ⟨by rw [List.length_set, List.length_set]; exact r.len, d.fz, d.pr, fun j d' h => ?_, d.nl, d.nd, d.dj, d.fr, fun j v h => ?_, d.fd⟩
  · have hj : j ≠ i := by
      intro z
      subst z
      by_cases hi : j < s.length
      · rw [List.getElem?_set_self hi] at h; cases h
      · rw [List.getElem?_eq_none (by rw [List.length_set]; omega)] at h; cases h
    rw [List.getElem?_set_ne (Ne.symm hj)]
    exact d.sl j d' h
  · have hj : j ≠ i := by
      intro z
      subst z
      rw [hp] at h; cases h
    rw [List.getElem?_set_ne (Ne.symm hj)]
    exact r.pn j v h
end
section
variable {X : Cx} {cA : Nat → Addr} {W : Gx} {i : Nat} {n x : Str} {cv : Value} {body suite : List Stmt} {b₀ : Stmt} {np pos pos' : Pos} {mt : Nat → Option Bool} {fb : Sl → Fl} {h : Xn → Sl → Fl}
def tsSu (X : Cx) (cA : Nat → Addr) (W : Gx) (i : Nat) (h : Xn → Sl → Fl) (a : Addr) (cls : Value) (dx : Option Addr) : TS := fun D σ H => ∃ xn dd, cls = .ref (cA xn.c) ∧ dx = some dd ∧ xflat xn = true ∧ tS X.K cA (suG W i a dd (fsOf xn)) (h xn) D σ H
theorem ss_try (hs : X.stack = X.env :: X.outer) (hf : X.env.frame = some X.env.locals) (hN : X.N.Nodup) (hi : X.N[i]? = some n) (hln : X.env.kindOf n = some .local) (hc : Names X x cv) (tk : L2N.Takes X W.w) (hpn : W.pn i = none)
    (hmt : ∀ c b, mt c = some b → PySem.W.exmOne X.K (.ref (cA c)) cv = some b)
    (hb : ∀ (W' : WX) (pn : List (Addr × Obj)) (xe : Value → Shared → Prop), L2N.Takes (X.tr pn xe) W' → PassesOwn (model X.prog X.w) X.A X.env xe → SSs (X.tr pn xe) cA ⟨W', W.P, W.pn⟩ body fb)
    (hsu : ∀ (xn : Xn) (a dd : Addr) (oe : Obj) (pn : List (Addr × Obj)), xflat xn = true → L2N.Zn (.ref (cA xn.c)) (some dd) oe → (∃ vs, oe.data = .fields vs) → SSs (X.suite a ((a, oe) :: pn)) cA (suG W i a dd (fsOf xn)) (b₀ :: suite) (h xn)) :
    SS X cA W (.Try body [.ExceptHandler (some (.Name x np)) (some n) (b₀ :: suite) pos'] [] [] pos) (tryS mt i fb h) := by
  refine PS_mono (L2N.ps_try_as (i := i) (tb := fun W' => tS X.K cA ⟨W', W.P, W.pn⟩ fb) (ts := tsSu X cA W i h) (Wout := W.w) hs hf hN hi hln hc tk hb (fun a oe cls d pn hz hfl => ⟨fun pins s σ H D I hh => ?_⟩)) fun D σ H hh => ?_
  · obtain ⟨xn, dd, rfl, rfl, hx, hh⟩ := hh
    exact (hsu xn a dd oe pn hx hz hfl).run pins s σ H D I hh
  · obtain ⟨F, fp, s, r, p⟩ := hh
    refine ⟨F, fp, s, r, ?_⟩
    unfold tryS at p
    cases e : fb s with
    | nx s1 => rw [e] at p; exact p
    | bk s1 => rw [e] at p; exact p
    | ct s1 => rw [e] at p; exact p
    | rt d s1 => rw [e] at p; exact p
    | no => rw [e] at p; exact p
    | ex xn s1 =>
      rw [e] at p
      intro cls dx σ1 H1 F1 fp1 g1 r1 hx
      have hx0 := hx
      obtain ⟨rfl, dd, vs, rfl, hFd, hHd, hv⟩ := hx
      dsimp only at p
      cases hm : mt xn.c with
      | none => rw [hm] at p; exact p.elim
      | some b =>
        rw [hm] at p
        cases b with
        | false => exact ⟨false, hmt _ _ hm, (fun z => by cases z), fun _ => p _ _ σ1 H1 F1 fp1 g1 r1 hx0⟩
        | true =>
          refine ⟨true, hmt _ _ hm, (fun _ a ha => ?_), fun z => by cases z⟩
          dsimp only at p
          split at p
          · rename_i hcnd
            rw [Bool.and_eq_true] at hcnd
            obtain ⟨hfl, hlt⟩ := hcnd
            have hlt : i < s1.length := Nat.lt_of_lt_of_le (Nat.lt_succ_self i) (Nat.le_of_ble_eq_true hlt)
            rw [fs_ok hfl hv] at hHd
            have sP : Same W.P (upd W.P dd (.xd (fsOf xn))) := fun b o q => by
              by_cases hbd : b = dd
              · subst hbd
                rw [upd_same]
                have := r1.pr _ _ q
                rw [hHd] at this
                exact this
              · rw [upd_ne hbd]
                exact q
            have rd := r1.dropS (i := i) hpn (some (.ref a))
            have rg := rd.guard hHd hFd (fun j hj => by
              unfold fset at hj
              split at hj
              · cases hj
              · exact r1.nox hHd j hj)
            have r2 : Rl X.K cA F1 (suG W i a dd (fsOf xn)).P (suG W i a dd (fsOf xn)).pn (fset fp1 i []) (s1.set i none) (σ1.set i (some (.ref a))) H1 := rg.pins fun j v hj => by
              unfold suG at hj
              dsimp only at hj
              split at hj
              · rename_i hji
                subst hji
                cases hj
                rw [List.getElem?_set_self (by rw [← r1.len]; exact hlt)]
              · exact rg.pn j v hj
            refine ⟨xn, dd, rfl, rfl, hfl, F1, fset fp1 i [], s1.set i none, r2, ?_⟩
            have p := p.up g1
            have back : ∀ {F2 : Hp} {fp2 : Nat → List Addr} {s2 : Sl} {σ2 : L2.St} {H2 : Hp}, Rl X.K cA F2 (suG W i a dd (fsOf xn)).P (suG W i a dd (fsOf xn)).pn fp2 s2 σ2 H2 → Rl X.K cA F2 W.P W.pn fp2 s2 σ2 H2 := fun r3 => (r3.unguard sP).pins fun j v hj => r3.pn j v (by
              unfold suG
              dsimp only
              rw [if_neg (fun z => by rw [z, hpn] at hj; cases hj)]
              exact hj)
            generalize h xn (s1.set i none) = z at p ⊢
            cases z with
            | nx s2 => exact fun σ2 H2 F2 fp2 g2 r3 => p (σ2.set i none) H2 F2 (fset fp2 i []) g2 ((back r3).dropB hpn)
            | bk s2 => exact fun σ2 H2 F2 fp2 g2 r3 => p (σ2.set i none) H2 F2 (fset fp2 i []) g2 ((back r3).dropB hpn)
            | ct s2 => exact fun σ2 H2 F2 fp2 g2 r3 => p (σ2.set i none) H2 F2 (fset fp2 i []) g2 ((back r3).dropB hpn)
            | rt d s2 =>
              refine fun v σ2 H2 F2 fp2 g2 r3 hev => p v σ2 H2 F2 fp2 g2 (back r3) ?_
              obtain ⟨l, q1, q2, q3, q4⟩ := hev
              exact ⟨l, q1, q2, q3, fun b hb => ⟨(q4 b hb).1, Same.free sP (q4 b hb).2⟩⟩
            | ex _ _ => exact p.elim
            | no => exact p.elim
          · exact p.elim
end
end NS
namespace NS
open PySem PySem.Spec PyProof.Rows L2
/-! ## in the suite: e.f, isinstance(e, C) -/
/-- what the class of an error must say -/
structure XkC (K : PySem.W.Frag) (D : Addr) : Prop where
  cl : (PySem.W.clsIn K D).isSome = true
  hg : PySem.W.findIn K (.ref D) "__getattribute__" = some (some (.builtin "BaseException.__getattribute__"))
  hk : PySem.W.findIn K (.ref D) "__getattr__" = some none
  hs : PySem.W.subIn K (.ref D) (.type "BaseException") = some true
  hd : PySem.W.hasDictIn K D = true
  ha : PySem.W.findIn K (.ref D) "__class__" = some (some (.builtin "object.__class__"))
  hn : PySem.W.specialIn K (.builtin "object.__class__") "__get__" = some (some (.builtin "getset_descriptor.__get__"))
  ht : PySem.W.takesIn K (.builtin "object.__class__") = some true
  hm : PySem.W.mroIn K D (.type "object") = some true
def rIsX (K : PySem.W.Frag) (D a dd : Addr) (fs : List (Str × V)) : List V → Hp → VK → Prop := fun xs H Q => H dd = some (.xd fs) ∧
  ((∃ (c : V) (cv : Value) (b : Bool), xs = [.ref a, c] ∧ ClsV c cv ∧ PySem.W.kitOne K (.ref D) cv = some b ∧ Q (.bl b) H) ∨
   (∃ (tp : Addr) (cs : List V) (us : List Value) (b : Bool), xs = [.ref a, .ref tp] ∧ H tp = some (.tup cs) ∧ Paired ClsV cs us ∧ PySem.W.kitAny K (.ref D) us = some b ∧ Q (.bl b) H))
theorem call_isX {X : Cx} {a D dd : Addr} {fs : List (Str × V)} {oe : Obj} {pn : List (Addr × Obj)} (C : XkC X.K D) (hz : Zc (.ref D) (some dd) oe) (hf : ∃ vs, oe.data = .fields vs) : CallR (X.suite a ((a, oe) :: pn)) (.builtin "isinstance") (rIsX X.K D a dd fs) := by
  intro pins s σ H xs us Q I r h
  obtain ⟨hdd, h⟩ := h
  obtain ⟨hget, _⟩ := I.pin (a, oe) (List.mem_append.mpr (.inl List.mem_cons_self))
  obtain ⟨mA, hns, hr⟩ := (show ObjOk X.prog X.w H s.heap dd (.xd fs) from I.hok dd _ hdd)
  obtain ⟨od, ho, hl⟩ := lookIn_ns hns
  have J : PySem.W.InstAt s.heap a oe D (some od) := by
    obtain ⟨vs, hv⟩ := hf
    obtain ⟨oc, od', oda, osl⟩ := oe
    obtain ⟨h1, h2⟩ := hz
    dsimp only at h1 h2 hv
    subst h1 h2 hv
    exact ⟨hget, rfl, rfl, ho⟩
  rcases h with ⟨c, cv, b, rfl, hc, e, q⟩ | ⟨tp, cs, ws, b, rfl, hT, k, e, q⟩
  · obtain ⟨u1, u2, rfl, r1, r2⟩ := vals2 r
    cases (show u1 = Value.ref a from r1)
    have ec := hc.eq r2
    subst ec
    exact PySem.W.kia_one (PySem.W.kitx_exc C.cl C.hg C.hk C.hs C.ha C.hn C.ht C.hm) I.kIn J e (fun z => nomatch z) fun tk => ⟨.bl b, H, I.kept (t' := tk) fun _ _ z => z, rfl, q⟩
  · obtain ⟨u1, u2, rfl, r1, r2⟩ := vals2 r
    cases (show u1 = Value.ref a from r1)
    cases (show u2 = Value.ref tp from r2)
    obtain ⟨_, its, rv, o, h1, h2, n, h3⟩ := (show ObjOk X.prog X.w H s.heap tp (.tup cs) from I.hok tp _ hT)
    have e3 := ClsV.all k rv
    subst e3
    obtain ⟨oc, od', dt, sl⟩ := o
    simp only at h2 h3
    subst h2 h3
    exact PySem.W.kia_tup (PySem.W.kitx_exc C.cl C.hg C.hk C.hs C.ha C.hn C.ht C.hm) I.kIn J h1 e (fun z => nomatch z) fun tk => ⟨.bl b, H, I.kept (t' := tk) fun _ _ z => z, rfl, q⟩
/-- a class as an expression's value -/
def vc : Value → V
  | .ref C => .ref C
  | .type T => .ty T
  | _ => .non
def clsV : Value → Bool
  | .ref _ => true
  | .type _ => true
  | _ => false
theorem names_pe {X : Cx} {x : Str} {c : Value} {p : Pos} (h : Names X x c) (hc : clsV c = true) : PE X (.Name x p) (tC (vc c)) ∧ ClsV (vc c) c := by
  obtain ⟨hg, hdbg, hm⟩ := h
  cases c with
  | ref C =>
    rcases hm with hm | ⟨hm, hv, hn⟩
    · exact ⟨pe_glob hg hm rfl hdbg, .own C⟩
    · exact ⟨pe_bltn hg hm hv rfl hn hdbg, .own C⟩
  | type T =>
    rcases hm with hm | ⟨hm, hv, hn⟩
    · exact ⟨pe_glob hg hm rfl hdbg, .ty T⟩
    · exact ⟨pe_bltn hg hm hv rfl hn hdbg, .ty T⟩
  | _ => cases hc
/-- e.f: x the exception that the suite holds -/
def xatE (x : Xn) (f : Str) : Sl → R EV := fun s => match x.at_.lookup f with
  | some d => if atm d then .ok (.val d) s else .no
  | none => .no
/-- a known truth value -/
def isxE (r : Option Bool) : Sl → R EV := fun s => match r with
  | some b => .ok (.val (.bl b)) s
  | none => .no
section
variable {X : Cx} {cA : Nat → Addr} {W : Gx} {i : Nat} {n : Str} {a dd : Addr} {oe : Obj} {pn : List (Addr × Obj)} {xn : Xn} {p p1 p2 p3 pos : Pos}
theorem lookup_fs {f : Str} : ∀ {l : List (Str × D)} {d : D}, l.lookup f = some d → (l.map fun p => (p.1, fv p.2)).lookup f = some (fv d)
  | [], d, h => by cases h
  | (g, e) :: l, d, h => by
    rw [List.lookup_cons] at h
    rw [List.map_cons, List.lookup_cons]
    dsimp only at h ⊢
    split at h
    · rename_i he
      cases h
      rfl
    · rename_i he
      exact lookup_fs h
theorem suG_at {F H : Hp} {fp : Nat → List Addr} {s : Sl} {σ : L2.St} (r : Rl X.K cA F (suG W i a dd (fsOf xn)).P (suG W i a dd (fsOf xn)).pn fp s σ H) : σ[i]? = some (some (.ref a)) ∧ H dd = some (.xd (fsOf xn)) :=
  ⟨r.pn i _ (if_pos rfl), r.pr dd _ upd_same⟩
theorem se_xat {f : Str} (T : XkC X.K (cA xn.c)) (hno : PySem.W.findIn X.K (.ref (cA xn.c)) f = some none) (hz : Zc (.ref (cA xn.c)) (some dd) oe) (hf : ∃ vs, oe.data = .fields vs) (hN : X.N[i]? = some n) (hv : Vis X.env.scope n) (hd : (n == ("__debug__" : Str)) = false) (hcd : (n == ("__classdict__" : Str)) = false) :
    SE (X.suite a ((a, oe) :: pn)) cA (suG W i a dd (fsOf xn)) (.Attribute (.Name n p) f pos) (xatE xn f) := by
  refine PE_mono (pe_xf ⟨T.hg, T.hk, T.hs, T.hd⟩ hno hz hf (pe_var (X := X.suite a ((a, oe) :: pn)) hN hv hd hcd) rfl) fun σ H Q h => ?_
  obtain ⟨F, fp, s, r, q⟩ := h
  obtain ⟨h1, h2⟩ := suG_at r
  unfold xatE at q
  split at q
  · rename_i d hl
    split at q
    · rename_i ha
      refine ⟨_, h1, rfl, rfl, dd, _, fv d, rfl, h2, lookup_fs hl, ?_⟩
      exact q (fv d) H F fp (Same.refl F) r (Ev.fro (by cases d <;> first | rfl | cases ha) (fv_rep ha))
    · exact q.elim
  · exact q.elim
theorem se_isx1 {C : Str} {cv : Value} {b : Option Bool} (T : XkC X.K (cA xn.c)) (hz : Zc (.ref (cA xn.c)) (some dd) oe) (hf : ∃ vs, oe.data = .fields vs) (hN : X.N[i]? = some n) (hv : Vis X.env.scope n) (hd : (n == ("__debug__" : Str)) = false) (hcd : (n == ("__classdict__" : Str)) = false)
    (hg : Gl X "isinstance") (hm : X.mg "isinstance" = none) (hc : Names X C cv) (hcv : clsV cv = true) (hb : ∀ b', b = some b' → PySem.W.kitOne X.K (.ref (cA xn.c)) cv = some b') :
    SE (X.suite a ((a, oe) :: pn)) cA (suG W i a dd (fsOf xn)) (.Call (.Name "isinstance" p) [.Name n p1, .Name C p2] [] pos) (isxE b) := by
  obtain ⟨e1, e2⟩ := names_pe (X := X.suite a ((a, oe) :: pn)) (p := p2) hc hcv
  refine PE_mono (pe_callB (X := X.suite a ((a, oe) :: pn)) (call_isX (fs := fsOf xn) T hz hf) hg hm boot_isinstance (pa_cons (pe_var (X := X.suite a ((a, oe) :: pn)) hN hv hd hcd) (pa_cons e1 pa_nil rfl) rfl) (by decide +kernel) (by decide +kernel) rfl rfl) fun σ H Q h => ?_
  obtain ⟨F, fp, s, r, q⟩ := h
  obtain ⟨h1, h2⟩ := suG_at r
  unfold isxE at q
  split at q
  · rename_i b'
    exact ⟨_, h1, h2, .inl ⟨_, cv, b', rfl, e2, hb b' rfl, q (.bl b') H F fp (Same.refl F) r (Ev.fro rfl rfl)⟩⟩
  · exact q.elim
/-- a tuple of classes -/
inductive NmsC (X : Cx) : List Expr → List Value → Prop where
  | nil : NmsC X [] []
  | cons {C : Str} {cv : Value} {p : Pos} {es : List Expr} {cs : List Value} (h : Names X C cv) (hc : clsV cv = true) (t : NmsC X es cs) : NmsC X (.Name C p :: es) (cv :: cs)
theorem NmsC.pa {X : Cx} {es : List Expr} {cs : List Value} (h : NmsC X es cs) : ∃ t : TA, PA X es t ∧ (∀ σ H Q, Q (cs.map vc) H → t σ H Q) ∧ Paired ClsV (cs.map vc) cs := by
  induction h with
  | nil => exact ⟨_, pa_nil, fun _ _ _ q => q, .nil⟩
  | @cons C cv p es cs h hc t ih =>
    obtain ⟨t, h1, h2, h3⟩ := ih
    obtain ⟨e1, e2⟩ := names_pe (p := p) h hc
    exact ⟨_, pa_cons e1 h1 rfl, fun σ H Q q => h2 σ H _ q, .cons e2 h3⟩
theorem NmsC.len {X : Cx} {es : List Expr} {cs : List Value} (h : NmsC X es cs) : es.length = cs.length := by
  induction h with
  | nil => rfl
  | cons _ _ _ ih => rw [List.length_cons, List.length_cons, ih]
theorem se_isxT {es : List Expr} {cs : List Value} {b : Option Bool} {k : Nat} (T : XkC X.K (cA xn.c)) (hz : Zc (.ref (cA xn.c)) (some dd) oe) (hf : ∃ vs, oe.data = .fields vs) (hN : X.N[i]? = some n) (hv : Vis X.env.scope n) (hd : (n == ("__debug__" : Str)) = false) (hcd : (n == ("__classdict__" : Str)) = false)
    (hg : Gl X "isinstance") (hm : X.mg "isinstance" = none) (hc : NmsC X es cs) (hl : es.length ≤ 1000) (hb : ∀ b', b = some b' → PySem.W.kitAny X.K (.ref (cA xn.c)) cs = some b') :
    SE (X.suite a ((a, oe) :: pn)) cA (suG W i a dd (fsOf xn)) (.Call (.Name "isinstance" p) [.Name n p1, .Tuple es k p2] [] pos) (isxE b) := by
  have hc' : NmsC (X.suite a ((a, oe) :: pn)) es cs := by
    clear hl hb
    induction hc with
    | nil => exact .nil
    | cons h hc t ih => exact .cons h hc ih
  obtain ⟨t, h1, h2, h3⟩ := hc'.pa
  refine PE_mono (pe_callB (X := X.suite a ((a, oe) :: pn)) (call_isX (fs := fsOf xn) T hz hf) hg hm boot_isinstance (pa_cons (pe_var (X := X.suite a ((a, oe) :: pn)) hN hv hd hcd) (pa_cons (pe_tup h1) pa_nil rfl) rfl) (by decide +kernel) (by decide +kernel) rfl rfl) fun σ H Q h => ?_
  obtain ⟨F, fp, s, r, q⟩ := h
  obtain ⟨h4, h5⟩ := suG_at r
  unfold isxE at q
  split at q
  · rename_i b'
    refine ⟨_, h4, h2 _ _ _ ⟨?_, fun tp htp => ?_⟩⟩
    · rw [List.length_map, ← hc.len, sizeLine_eq]
      omega
    · have hne : dd ≠ tp := fun z => by
        rw [z, htp] at h5
        cases h5
      refine ⟨by rw [upd_ne hne]; exact h5, .inr ⟨tp, _, cs, b', rfl, upd_same, h3, hb b' rfl, ?_⟩⟩
      exact q (.bl b') _ F fp (Same.refl F) (r.new htp _) (Ev.fro rfl rfl)
  · exact q.elim
end
end NS
namespace NX
open PySem PySem.Spec PyProof.Rows L2
/-! ## an exception leaves a comprehension's block -/
theorem noteFrame_eq {e : Value} {env env' : Env} (h : env.frame = env'.frame) : noteFrame e env = noteFrame e env' := by
  unfold noteFrame PySem.frameOf
  rw [h]
theorem funFrames_mono {B B' h h' : Heap} : ∀ {l : List Env}, h.FunFrames B l → (∀ L ∈ frs l, h'.get? L = h.get? L) → (∀ b, B.get? b = none → B'.get? b = none) → h'.FunFrames B' l
  | [], _, _, _ => trivial
  | env :: l, h, k, hB => by
    obtain ⟨hk, ⟨L, o, hf, hn, ho, hd⟩, hr⟩ := h
    exact ⟨hk, ⟨L, o, hf, hB L hn, (k L (List.mem_filterMap.mpr ⟨env, List.mem_cons_self, hf⟩)).trans ho, hd⟩, funFrames_mono hr (fun b hb => k b (by
      obtain ⟨e, he, q⟩ := List.mem_filterMap.mp hb
      exact List.mem_filterMap.mpr ⟨e, List.mem_cons_of_mem _ he, q⟩)) hB⟩
theorem blk_pass {X : Cx} {W : WX} {E : XK} {pins : List (Addr × Obj)} {σ : L2.St} {H' : Hp} {s s' : Shared} {u : Value} {C : Addr} {m : Str → Option Value} {ce : Env} {what : String} (tk : L2N.Takes X W) (hs : X.stack = X.env :: X.outer) (hf : X.env.frame = some X.env.locals) (hce : ce.frame = X.env.frame)
    (I : Inv X pins σ H' s) (hn : s.heap.Ns C m) (nC : H' C = none) (hCf : C ∉ frs X.stack) (hCp : ∀ H'' : Hp, H'' C = none → FpOk X pins H'' C) (c : L2N.CX X.prog X.w X.stack H' s E u s') (hE : ∀ cls d H, E cls d H → W cls d σ H) :
    notedBy (model X.prog X.w) X.A ce (fun e s'' => ∃ m, s''.heap.Ns C m ∧ ∀ h', Heap.SameBut C s''.heap h' → ∀ cenv : Env, cenv.locals = C → cenv.frame = X.env.frame → wpAny (model X.prog X.w) X.A (passOn what e cenv : Sem Value) (fun _ _ => False) X.xe { s'' with heap := h' }) u s' := by
  have c0 := c
  obtain ⟨a, B, H2, cls, d, rfl, fl, hok, ub, na, os, ag, w⟩ := c
  have ok := I.ok
  have hfr : X.A.frames = some (X.env :: X.outer) := by rw [ok.frames, hs]
  have fl' : HandSPX.FlyingZ B (X.env :: X.outer) a (L2N.Zn cls d) s'.heap := by rw [← hs]; exact fl
  obtain ⟨oC, es, ep, hoC, hdC, hrest⟩ := hn
  have hBC : B.get? C = some oC := ub.keep C oC hoC nC hCf
  have n2 : H2 C = none := ub.free C oC hoC nC
  show wpAny _ _ (noteFrame (.ref a) ce) _ _ _
  rw [noteFrame_eq hce]
  refine PySem.PXN.looks_onZ L2N.Zn.steady hfr hf fl' fun h1 hh up1 => ?_
  have hh' : HandSPX.HeldZ B X.stack a (L2N.Zn cls d) X.env.locals h1 := by rw [hs]; exact hh
  obtain ⟨st1, na1, ff1, tr1⟩ := hh'
  refine ⟨m, ⟨oC, es, ep, st1 C oC hBC, hdC, hrest⟩, fun h2 sb cenv hl hcf => ?_⟩
  have hbne : ∀ b, B.get? b = none → b ≠ C := fun b hb z => by
    rw [z, hBC] at hb
    cases hb
  have fC : ∀ b ∈ frs X.stack, b ≠ C := fun b hb z => hCf (by rw [← z]; exact hb)
  -- the ground without C
  obtain ⟨B', b1, b2⟩ := restrict B fun b => decide (b ≠ C)
  have b1' : ∀ b, b ≠ C → B'.get? b = B.get? b := fun b hb => b1 b (decide_eq_true hb)
  have bC : B'.get? C = none := b2 C (by simp)
  have bnone : ∀ b, B.get? b = none → B'.get? b = none := fun b hb => (b1' b (hbne b hb)).trans hb
  have st2 : B'.StaysIn h2 := fun b o e => by
    have hb : b ≠ C := fun z => by rw [z, bC] at e; cases e
    rw [b1' b hb] at e
    exact (sb.2 b hb).trans (st1 b o e)
  have ff2 : h2.FunFrames B' X.stack := funFrames_mono ff1 (fun L hL => sb.2 L (fC L hL)) bnone
  obtain ⟨oe, vs, T, oT, ts, t1, t2, t3, t4, t5, t6, t7, t8, t9⟩ := tr1
  have ta : h2.get? a = some oe := (sb.2 a (hbne a na1)).trans t1
  have tr2 : HandSPX.TracedZ h2 B' a (L2N.Zn cls d) (rawInt X.env.locals) := ⟨oe, vs, T, oT, ts, ta, t2, t3, t4, bnone T t5, t6, (sb.2 T (hbne T t5)).trans t7, t8, t9⟩
  unfold PySem.passOn
  refine wpAny_bind (wpAny_field ta t3 t4 ?_)
  rw [if_neg (show ¬ ((Value.ref T == Value.none) = true) from by simp)]
  have fin : wpAny (model X.prog X.w) X.A (setFlight (.ref a) cenv.frame) (fun _ s4 => wpAny (model X.prog X.w) X.A (throw (.ref a) : Sem Value) (fun _ _ => False) X.xe s4) X.xe { s' with heap := h2 } := by
    rw [hcf, hf]
    refine HandSPX.setFlight_anyZ (s := { s' with heap := h2 }) st2 ff2 tr2 fun h4 k1 k2 k3 k4 => wpAny_throw (tk _ _ ?_)
    -- the state without the exception
    obtain ⟨G0, g1, g2⟩ := restrict s'.heap fun b => (B.get? b).isSome || decide (b ∈ frs X.stack)
    have st : B.StaysIn s'.heap := fl.1
    have gB : ∀ b o, B.get? b = some o → G0.get? b = some o := fun b o e => by
      rw [g1 b (by simp [e])]
      exact st b o e
    have gF : ∀ b, b ∈ frs X.stack → G0.get? b = s'.heap.get? b := fun b hb => g1 b (by simp [hb])
    have og : ∀ b o, G0.get? b = some o → s'.heap.get? b = some o ∧ ((B.get? b).isSome = true ∨ b ∈ frs X.stack) := fun b o e => by
      cases q : ((B.get? b).isSome || decide (b ∈ frs X.stack)) with
      | false => rw [g2 b q] at e; cases e
      | true =>
        rw [g1 b q] at e
        exact ⟨e, by simpa [Bool.or_eq_true] using q⟩
    have J0 : Inv X pins σ H2 { s with heap := G0, gens := s'.gens, drawn := s'.drawn, toks := s'.toks } := by
      refine I.call (ch := []) ⟨fun b o e n hb _ => gB b o (ub.keep b o e n hb), fun b o e n hb _ => ?_, fun b o e n _ => ub.free b o e n, fun b o e _ => ?_, ub.tups, ub.frzs, ub.tbls⟩ (hok.kept gB) ag (fun _ z => nomatch z)
      · obtain ⟨sl, q⟩ := ub.slot b o e hb
        exact ⟨sl, by rw [gF b hb]; exact q⟩
      · by_cases hb : b ∈ frs X.stack
        · obtain ⟨sl, q⟩ := ub.slot b o e hb
          exact ⟨_, by rw [gF b hb]; exact q⟩
        · obtain ⟨o', q⟩ := ub.there b o e hb
          exact ⟨o', gB b o' q⟩
    obtain ⟨G, q1, q2⟩ := restrict G0 fun b => decide (b ≠ C)
    have q1' : ∀ b, b ≠ C → G.get? b = G0.get? b := fun b hb => q1 b (decide_eq_true hb)
    have qC : G.get? C = none := q2 C (by simp)
    obtain ⟨f0, f1, f2, f3, f4, f5⟩ := hCp H2 n2
    have J : Inv X pins σ H2 { s with heap := G, gens := s'.gens, drawn := s'.drawn, toks := s'.toks } := J0.turned (t' := s'.toks) (fun b o hb e => (q1' b hb).trans e) f0 f1 f3 f4 f5
    have hne : ∀ b o, G.get? b = some o → b ≠ C ∧ G0.get? b = some o := fun b o e => by
      have hb : b ≠ C := fun z => by rw [z, qC] at e; cases e
      exact ⟨hb, by rw [← q1' b hb]; exact e⟩
    refine ⟨a, B', _, pins, σ, H2, cls, d, rfl, J, fun b o e hb => ?_, fun b o e hnf => ?_, .inr (.inr ⟨k1, bnone a na1, k2, k3⟩), na, os, ag, hE _ _ _ w⟩
    · obtain ⟨h3, h4⟩ := hne b o e
      obtain ⟨e', h⟩ := og b o h4
      rcases h with h | h
      · obtain ⟨o', q⟩ := Option.isSome_iff_exists.mp h
        have z := st b o' q
        rw [e'] at z; cases z
        exact (b1' b h3).trans q
      · exact absurd h hb
    · obtain ⟨h3, h4⟩ := hne b o e
      obtain ⟨e', _⟩ := og b o h4
      obtain ⟨sl, z⟩ := up1 b o e' hnf
      have z2 : h2.get? b = some { o with slots := sl } := (sb.2 b h3).trans z
      obtain ⟨sl2, z3⟩ := k4 b _ z2 hnf
      exact ⟨sl2, z3⟩
  first
    | exact wpAny_bind (wpAny_pure (wpAny_bind fin))
    | exact wpAny_bind fin
end NX
namespace NX
open PySem PySem.Spec PyProof.Rows L2
/-! ## a comprehension whose element may raise -/
/-- behind the block: the value; an exception, the block's names let go -/
def postX (M : Model) (A : Around) (E : Value → Shared → Prop) (Q : Value → Shared → Prop) (acc : Value) (C : Addr) (fr : Option Addr) (r : Result) (s' : Shared) : Prop :=
  match r with
  | .ok _ => ∃ m, s'.heap.Ns C m ∧ ∀ h', Heap.SameBut C s'.heap h' → Q acc { s' with heap := h' }
  | .error x => ∃ m, s'.heap.Ns C m ∧ ∀ h', Heap.SameBut C s'.heap h' → ∀ cenv : Env, cenv.locals = C → cenv.frame = fr → wpAny M A (passOn "comprehension.variables-let-go" x cenv : Sem Value) (fun _ _ => False) E { s' with heap := h' }
section
variable {M : Model} {A : Around} {E : Value → Shared → Prop} {s : Shared} {env : Env}
theorem comp_freeX {e : Expr} {scope : Scope} {pos : Pos} {newAcc first : Sem Value} {g : Comprehension} {gs : List Comprehension} {cl : List (Str × Addr)} {Q : Value → Shared → Prop}
    (h1 : clausesOf e = g :: gs) (h2 : ∀ x, foldedSetIterable g.iter env x = pure x) (h3 : closureFor scope env = pure cl) (h4 : scope.kind = .function) (h5 : ∀ x ∈ scope.names, x.2 = .local → scope.names.lookup x.1 = some .local)
    (h : wpAny M A first (fun x s₁ => wpAny M A (pyIter x) (fun it s₂ => wpAny M A newAcc (fun acc s₃ => wpAny M A (newFunctionEnv scope env.globals cl [] env.qual none .none (some env)) (fun ce s₄ =>
      codeAny M A (.compStart e 0 it acc { ce with scope := relabel scope env }) (postX M A E Q acc ce.locals ce.frame) s₄) E s₃) E s₂) E s₁) E s) :
    wpAny M A (comprehension e scope env pos newAcc false first none) Q E s := by
  unfold comprehension
  rw [h3, h1]
  refine wpAny_bind (wpAny_mono h (fun x s₁ k1 => ?_) fun _ _ z => z)
  refine wpAny_bind (wpAny_standAt (wpAny_bind (wpAny_of_eq (h2 x) (wpAny_bind (wpAny_holding (wpAny_mono k1 (fun it s₂ k2 => ?_) fun _ _ z => z))))))
  refine wpAny_standIf (wpAny_bind (wpAny_mono k2 (fun acc s₃ k3 => ?_) fun _ _ z => z))
  refine wpAny_bind (wpAny_pure (wpAny_bind (wpAny_mono k3 (fun ce s₄ k4 => ?_) fun _ _ z => z)))
  dsimp only
  have hv : ∀ x ∈ (scope.names.filter fun x => (x.2 == .local || x.2 == .cell) && x.1 != (".0" : Str)).reverse, x.2 = .local → Env.kindOf { ce with scope := relabel scope env } x.1 = some .local := fun x hx hl =>
    lookup_relabel_local (h5 x (List.mem_filter.mp (List.mem_reverse.mp hx)).1 hl)
  refine wpAny_holding (wpAny_bind (wpAny_attempt (wpAny_holding (wpAny_run (codeAny_mono k4 fun r s' hr => ?_)))))
  cases r with
  | ok f =>
    obtain ⟨m, hn, hr⟩ := hr
    exact wpAny_bind (wpAny_holding (wpAny_comp_letGo (cenv := { ce with scope := relabel scope env }) h4 _ s' m hv hn fun h' m' _ q => wpAny_pure (hr h' q)))
  | error x =>
    obtain ⟨m, hn, hr⟩ := hr
    exact wpAny_bind (wpAny_holding (wpAny_comp_letGo (cenv := { ce with scope := relabel scope env }) h4 _ s' m hv hn fun h' m' _ q => wpAny_mono (hr h' q _ rfl rfl) (fun _ _ f => f.elim) fun _ _ y => y))
end
/-- the block, with a wish of exceptions -/
abbrev blkX (X : Cx) (s : Shared) (H : Hp) (scope : Scope) (ce : Env) (fp : List Addr) (xe : Value → Shared → Prop) : Cx := { X.blk s H scope ce fp with xe := xe }
theorem pe_lcX {X : Cx} {elt tg iter : Expr} {scope : Scope} {own : List (Str × Nat)} {pos : Pos} {wi : TI} {g : TG} {te : L2.St → TE} {W : WX} (tk : L2N.Takes X W) (hst : X.stack = X.env :: X.outer) (hfr : X.env.frame = some X.env.locals) (hc : X.calm = true) (hN : X.N.Nodup) (hi : PI X tg iter wi) (ok : BlkOk X.N X.env.scope scope own)
    (hg : ∀ (s : Shared) (H : Hp) (C : Addr) (cl : List (Str × Addr)) (fp : List Addr) (xe : Value → Shared → Prop), PG (blkX X s H scope (compEnvC scope cl C X.env) fp xe) tg g)
    (he : ∀ (σ0 : L2.St) (s : Shared) (H : Hp) (C : Addr) (cl : List (Str × Addr)) (fp : List Addr) (xe : Value → Shared → Prop), (∀ σ', PassesAt (L2N.CX X.prog X.w) (blkX X s H scope (compEnvC scope cl C X.env) fp xe) σ' (fun cls d H => W cls d σ0 H)) → PE (blkX X s H scope (compEnvC scope cl C X.env) fp xe) elt (te σ0))
    (hfs : ∀ x, foldedSetIterable iter X.env x = pure x) : PE X (.ListComp elt [⟨tg, iter, [], 0⟩] scope pos) (fun σ H Q => tLc wi g tYes (te σ) (own.map (·.2)) σ H Q) := by
  refine ⟨fun pins s σ H Q I h => ?_⟩
  rw [eval_ListComp]
  have hfree : ∀ y ∈ scope.names, y.2 = .free → ∃ c, X.env.cells.lookup y.1 = some c := fun y hy e => by
    rcases ok.free y hy e with k | k
    · exact I.ok.has _ (.inl k)
    · exact I.ok.has _ (.inr k)
  refine comp_freeX rfl hfs (closure_ok hfree) ok.kind (fun y hy e => by rw [ok.uniq y hy, e]) (thn (hi.run pins s σ H _ I h) fun xv s1 hx => thn hx fun itv s2 h2 => ?_)
  obtain ⟨it, fp, tn, J, H2, e, I2, T, st2, f2, q⟩ := h2
  subst e
  refine wpAny_newObj_type (newEnv_comp ?_) (by show 0 ≤ sizeLine; decide)
  generalize hD : s2.heap.objs.size = D
  have hDn : H2 D = none := I2.hok.fresh (Nat.le_of_eq hD)
  obtain ⟨Z, ⟨m0, w0⟩, turn⟩ := q D hDn
  generalize hs3 : ({ s2 with heap := s2.heap.push { cls := .type "list", data := .seq ([] : List Value).toArray } } : Shared) = s3
  have h3 : s3.heap = s2.heap.push { cls := .type "list", data := .seq ([] : List Value).toArray } := by rw [← hs3]
  have I3 : Inv X pins σ (upd H2 D (.lst [])) s3 := by
    rw [← hs3]
    refine I2.laid (t' := s2.toks) (fun b o e => Heap.get?_push_of_some _ e) (Nat.le_of_eq hD) ⟨Nat.zero_le _, [], 0, .nil, ?_⟩
    rw [← hD]
    exact Heap.get?_push_size _ rfl
  have f3 : ∀ b ∈ fp, FpOk X pins (upd H2 D (.lst [])) b ∧ b < s3.heap.objs.size := fun b hb => by
    obtain ⟨o, e, _⟩ := T.obj _ _ st2 b hb
    have hlt := Heap.lt_size e
    refine ⟨⟨?_, (f2 b hb).2⟩, by rw [h3, Heap.size_push]; exact Nat.lt_succ_of_lt hlt⟩
    rw [upd_ne (by rw [← hD]; exact Nat.ne_of_lt hlt)]
    exact (f2 b hb).1
  have st3 : tn 0 s3.heap := T.keep _ _ _ st2 fun b _ o e => by rw [h3]; exact Heap.get?_push_of_some _ e
  show codeAny _ _ (.compStart (.ListComp elt [⟨tg, iter, [], 0⟩] scope pos) 0 (.ref it) (.ref D) (compEnvC scope (cellsFrom (s3.heap.objs.size + 1) scope.names (cloFrom X.env.cells scope.names [])) s3.heap.objs.size X.env)) (postX (model X.prog X.w) X.A X.xe (EP X pins σ Q) (.ref D) s3.heap.objs.size X.env.frame) { s3 with heap := pushCells (s3.heap.push { cls := .type "dict", data := .dict #[] }) scope.names }
  generalize hce : compEnvC scope (cellsFrom (s3.heap.objs.size + 1) scope.names (cloFrom X.env.cells scope.names [])) s3.heap.objs.size X.env = ce
  have cL : ce.locals = s3.heap.objs.size := by subst hce; rfl
  have cF : ce.frame = X.env.frame := by subst hce; rfl
  generalize hH3 : upd H2 D (.lst []) = H3 at I3 w0 f3
  -- what is wished of an exception
  let R : Result → Shared → Prop := postX (model X.prog X.w) X.A X.xe (EP X pins σ Q) (.ref D) s3.heap.objs.size X.env.frame
  let xe : Value → Shared → Prop := notedBy (model X.prog X.w) X.A ce fun e s' => R (.error e) s'
  have I4 : Inv (blkX X s3 H3 scope ce fp xe) [] (wipe σ (own.map (·.2))) H3 { s3 with heap := pushCells (s3.heap.push { cls := .type "dict", data := .dict #[] }) scope.names } := by
    have z := block_start I3 ok hN f3
    rw [hce] at z
    exact z.wish _
  have back : ∀ {σ' : L2.St} {pins' : List (Addr × Obj)} {H' : Hp} {s' : Shared}, Inv (blkX X s3 H3 scope ce fp xe) pins' σ' H' s' → Inv X pins σ H' s' ∧ H' s3.heap.objs.size = none ∧ ∃ m, s'.heap.Ns s3.heap.objs.size m := fun {σ' pins' H' s'} I' => by
    refine ⟨I3.call' (ch := fp) I'.os I'.base I'.hok I'.bare fun b hb => ⟨(f3 b hb).1.2.2.2.1, (f3 b hb).1.2.1, (f3 b hb).1.2.2.2.2.1, (f3 b hb).1.2.2.2.2.2⟩, ?_, ?_⟩
    · have z : H' ce.locals = none := I'.free
      rw [cL] at z
      exact z
    · obtain ⟨m, hn, _⟩ := I'.loc
      have hn : s'.heap.Ns ce.locals m := hn
      rw [cL] at hn
      exact ⟨m, hn⟩
  have nfs : s3.heap.objs.size ∉ frs X.stack := fun hm => by
    obtain ⟨_, o', e', _⟩ := I3.stack.mem hm
    exact absurd (Heap.lt_size e') (Nat.lt_irrefl _)
  have hp : ∀ σ', PassesAt (L2N.CX X.prog X.w) (blkX X s3 H3 scope ce fp xe) σ' (fun cls d H => W cls d σ H) := fun σ' pins' H' s' e' s'' I' c => by
    obtain ⟨J1, J2, m, J3⟩ := back I'
    exact blk_pass tk hst hfr cF J1 J3 J2 nfs (fun H'' hn => I3.fpOk (Nat.le_refl _) hn) c fun _ _ _ w => w
  have pg := hg s3 H3 s3.heap.objs.size (cellsFrom (s3.heap.objs.size + 1) scope.names (cloFrom X.env.cells scope.names [])) fp xe
  have pe := he σ s3 H3 s3.heap.objs.size (cellsFrom (s3.heap.objs.size + 1) scope.names (cloFrom X.env.cells scope.names [])) fp xe
  rw [hce] at pg pe
  have pe := pe hp
  have nfp : ∀ b ∈ fp, H3 b = none := fun b hb => (f3 b hb).1.1
  generalize hs4 : ({ s3 with heap := pushCells (s3.heap.push { cls := .type "dict", data := .dict #[] }) scope.names } : Shared) = s4 at I4
  have st4 : tn 0 s4.heap := T.keep _ _ _ st3 fun b _ o e => by rw [← hs4]; exact pushCells_keeps _ _ _ _ (Heap.get?_push_of_some _ e)
  have stat : ∀ {σ' : L2.St} {H' : Hp} {s' : Shared}, Inv (blkX X s3 H3 scope ce fp xe) [] σ' H' s' → (∀ b ∈ fp, H' b = none) → ∀ b ∈ fp, FpOk (blkX X s3 H3 scope ce fp xe) [] H' b := fun {σ' H' s'} I' hn b hb =>
    ⟨hn b hb, (I'.ok.exf b hb).1, I'.ok.exfs b hb, .inl hb, fun x c e => (I'.ok.exf b hb).2 x c e, fun p hp => absurd (show p ∈ ([] : List (Addr × Obj)) ++ [] from hp) (by simp)⟩
  have loop : codeAny (model X.prog X.w) X.A (.compLoop (.ListComp elt [⟨tg, iter, [], 0⟩] scope pos) 0 (.ref it) (.ref D) ce) R s4 := by
    refine compLoop_any (fun n s' => ∃ i H', Inv (blkX X s3 H3 scope ce fp xe) [] (wipe σ (own.map (·.2))) H' s' ∧ tn i s'.heap ∧ (∀ b ∈ fp, H' b = none) ∧ Z i n H') ?_ m0 ⟨0, H3, I4, st4, nfp, w0⟩
    rintro n s5 ⟨i, H5, I5, st5, n5, w5⟩
    rcases turn i n H5 w5 with ⟨stop, qq⟩ | ⟨go, Nx, hNx, step⟩
    · refine thnF (T.done (blkX X s3 H3 scope ce fp xe) rfl rfl rfl hc i [] s5 _ H5 (fun _ _ => False) I5 (stat I5 n5) st5 stop) fun r s6 ⟨hr, I6⟩ => ?_
      subst hr
      obtain ⟨I7, nC, m, hn⟩ := back I6
      obtain ⟨f0, f1, f2, f3, f4, f5⟩ := I3.fpOk (Nat.le_refl _) nC
      exact ⟨m, hn, fun h'' sb => ⟨.ref D, H5, I7.turned (t' := s6.toks) (fun b o hb e => (sb.2 b hb).trans e) f0 f1 f3 f4 f5, rfl, qq⟩⟩
    · refine thnF (T.item (blkX X s3 H3 scope ce fp xe) rfl rfl rfl hc i [] s5 _ H5 (fun _ _ => False) I5 (stat I5 n5) st5 go) fun r s6 ⟨u, hr, h6⟩ => ?_
      subst hr
      refine thnF h6 fun _ s7 ⟨x, H7, I7, r7, y7, st7, n7⟩ => ?_
      have I7' := I7.pinned (stat I7 n7) (T.obj _ _ st7)
      refine wpAny_mono (pg.run _ s7 _ H7 x u _ I7' r7 (step x H7 y7)) (fun _ s8 h8 => ?_) fun _ _ z => z
      obtain ⟨σ8, H8, I8, hw8, q8⟩ := h8
      refine wpAny_tests_nil ?_
      have q8 : te σ σ8 H8 fun y H4 => ∃ acc, H4 D = some (.lst acc) ∧ acc.length < sizeLine ∧ Nx (upd H4 D (.lst (acc ++ [y]))) := q8
      refine iteT (wpAny_mono (pe.run _ s8 σ8 H8 _ I8 q8) (fun z s10 h10 => ?_) fun _ _ z => z)
      obtain ⟨yv, H10, I10, r10, acc, hD10, hz10, nx⟩ := h10
      refine thnF (app_ok (X := blkX X s3 H3 scope ce fp xe) I10 hD10 hz10 r10 fun s11 I11 => ?_) fun _ _ z => z
      obtain ⟨m', hm, w'⟩ := hNx _ nx
      have pin' : ∀ b ∈ fp, ∀ o, s7.heap.get? b = some o → s11.heap.get? b = some o ∧ (upd H10 D (.lst (acc ++ [yv]))) b = none := fun b hb o e =>
        let z := I11.pin (b, o) (List.mem_append_right _ (List.mem_append_right _ (mem_pinsAt hb e)))
        ⟨z.1, z.2.1⟩
      have hl : (wipe σ (own.map (·.2))).length = σ8.length := by rw [← hw8, wipe_length]
      refine ⟨m', hm, i + 1, _, (I11.unpinned (pins := [])).weak hl (fun j v e => ?_), T.keep _ _ _ st7 fun b hb o e => (pin' b hb o e).1, fun b hb => ?_, w'⟩
      · rw [← hw8] at e
        exact (wipe_some e).1
      · obtain ⟨o, e, _⟩ := T.obj _ _ st7 b hb
        exact (pin' b hb o e).2
  exact codeAny_compStart_list loop (T.self X.A 0 _ _ _ st4 loop)
end NX
namespace NS
open PySem PySem.Spec PyProof.Rows L2
/-! ## comprehensions whose element may raise, by value -/
def lcLX (tt : D → Sl → Option Sl) (vs : List Nat) (f : Sl → R EV) : List D → Sl → List D → R (List D)
  | [], s, acc => .ok acc s
  | d :: ds, s, acc => match tt d (wipeS s vs) with
    | none => .no
    | some s1 => match penE f (fun e s => .ok e s) s1 with
      | .ok e s3 => (match evV e s3 with
        | some (d', s4) => if fits (acc.length + 1) then lcLX tt vs f ds s4 (acc ++ [d']) else .no
        | none => .no)
      | .ex x s3 => .ex x (wipeS s3 vs)
      | .no => .no
def lcX (g : Sl → R (List D)) (tt : D → Sl → Option Sl) (vs : List Nat) (f : Sl → R EV) : Sl → R EV := fun s => (g s).bind fun ds s1 => (lcLX tt vs f ds s1 []).bind fun acc s2 => .ok (.val (.lst true acc)) (wipeS s2 vs)
section
variable {X : Cx} {cA : Nat → Addr} {W : Gx} {e a b c tg : Expr} {es : List Expr} {f g h : Sl → R EV} {pos : Pos}
/-- an element's wish: its exceptions are the def's -/
def tEX (X : Cx) (cA : Nat → Addr) (W : Gx) (σ0 : L2.St) (f : Sl → R EV) : TE := fun σ H Q => ∃ P, tE X.K cA ⟨fun cls d _ H => W.w cls d σ0 H, P, W.pn⟩ f σ H Q
theorem lc_okX {F0 F P' H0 G : Hp} {C : List D → Sl → Prop} {J : It} {ds : List D} {fp : Nat → List Addr} {s : Sl} {σ : L2.St} {H1 : Hp} {A : Addr} {Q : VK} {tt : D → Sl → Option Sl} {vs is : List Nat} {t : TG} (hJ : ItG X.K cA F G J ds) (hG : ∀ (F1 : Hp) (fp1 : Nat → List Addr) (s1 : Sl) (σ1 : L2.St) (H : Hp), Same F F1 → Rl X.K cA F1 W.P W.pn fp1 s1 σ1 H → Same G H) (hv : ∀ i ∈ vs, W.pn i = none) (hi : ∀ i ∈ is, i ∈ vs)
    (ht : TgB X cA W tg tt is t) (r : Rl X.K cA F W.P W.pn fp s σ H1) (hA : H1 A = none)
    (p : Po X.K cA W F σ (lcLX tt vs f ds s []) C)
    (hC : ∀ (acc : List D) (s2 : Sl) (F1 : Hp) (fp1 : Nat → List Addr) (H : Hp), Same F F1 → Rl X.K cA F1 W.P W.pn fp1 (wipeS s2 vs) σ H → Ev X.K cA F1 W.P H fp1 (wipeS s2 vs) σ (.ref A) (.val (.lst true acc)) → C acc s2 → Q (.ref A) H) :
    ∃ Z : Nat → Nat → Hp → Prop, (∃ m, Z 0 m (upd H1 A (.lst []))) ∧ ∀ i m H, Z i m H →
      (J.stop i H ∧ Q (.ref A) H) ∨ (J.go i H ∧ ∃ Nx : Hp → Prop, (∀ H', Nx H' → ∃ m', m' < m ∧ Z (i + 1) m' H') ∧ ∀ x H', J.yld i H x H' → t x (L2.wipe σ vs) H' fun σ2 H2 => L2.wipe σ2 vs = L2.wipe σ vs ∧ tYes σ2 H2 fun b H3 =>
        if b = true then tEX X cA W σ f σ2 H3 fun y H4 => ∃ acc, H4 A = some (.lst acc) ∧ acc.length < sizeLine ∧ Nx (upd H4 A (.lst (acc ++ [y]))) else Nx H3) := by
  -- what holds ahead of each turn
  let Pv : Nat → Hp → Prop := fun i H => ∃ F1 fp1 s1 acc accv, Same F F1 ∧ Rl X.K cA F1 W.P W.pn fp1 (wipeS s1 vs) (L2.wipe σ vs) H ∧ H A = some (.lst accv) ∧ RepFs X.K cA F1 acc accv ∧ F1 A = none ∧ W.P A = none ∧ (∀ j, A ∉ fp1 j) ∧
    acc.length ≤ LN ∧ Po X.K cA W F1 σ (lcLX tt vs f (ds.drop i) s1 acc) C
  refine ⟨fun i m H => m = ds.length - i ∧ i ≤ ds.length ∧ Pv i H, ⟨ds.length, rfl, Nat.zero_le _, ?_⟩, ?_⟩
  · obtain ⟨fp', r', e'⟩ := r.wipe hv
    have hn : ∀ j, A ∉ fp' j := fun j z => by
      obtain ⟨o, z⟩ := r'.there z
      rw [hA] at z; cases z
    refine ⟨F, fp', s, [], [], Same.refl F, r'.new hA _, upd_same, rfl, Same.free r.fz hA, Same.free r.pr hA, hn, Nat.zero_le _, ?_⟩
    exact p
  · rintro i m H ⟨rfl, hi', F1, fp1, s1, acc, accv, g1, r1, hAv, na, fA, pA, nfp, hlen, p1⟩
    obtain ⟨hgo, hstop⟩ := hJ i H (hG _ _ _ _ _ g1 r1)
    by_cases hlt : i < ds.length
    · have hd : ds[i]? = some ds[i] := List.getElem?_eq_getElem hlt
      obtain ⟨go, hy⟩ := hgo _ hd
      refine .inr ⟨go, Pv (i + 1), fun H' h => ⟨ds.length - (i + 1), by omega, rfl, hlt, h⟩, fun x H' y => ?_⟩
      rw [List.drop_eq_getElem_cons hlt] at p1
      have y1 : Yl X.K cA F1 H ds[i] x H' := (hy x H' y).mono g1
      have ho : ds[i].own = false := y1.1
      -- the new list is kept apart
      have rg := r1.guard hAv fA nfp
      obtain ⟨F2, g2, r2, q2⟩ := yl_rep (W := W.blk (upd W.P A (.lst accv))) rg y1
      unfold lcLX at p1
      cases hs : tt ds[i] (wipeS s1 vs) with
      | none => rw [hs] at p1; exact p1.elim
      | some s3 =>
        rw [hs] at p1
        dsimp only at p1
        refine ht.ok (upd W.P A (.lst accv)) F2 fp1 _ s3 _ H' ds[i] x _ r2 q2 ho hs fun σ2 fp2 r3 hw0 => ?_
        have hw : L2.wipe σ2 vs = L2.wipe σ vs := (hw0 vs hi).trans (wipe_wipe fun _ h => h)
        refine ⟨hw, iteT (B := Pv (i + 1) H') ⟨upd W.P A (.lst accv), F2, fp2, s3, r3, ?_⟩⟩
        -- the list's guard, lifted
        have back : ∀ {F4 : Hp} {fp4 : Nat → List Addr} {s4 : Sl} {H4 : Hp}, Rl X.K cA F4 (upd W.P A (.lst accv)) W.pn fp4 s4 σ2 H4 → ∃ fp5, Rl X.K cA F4 W.P W.pn fp5 (wipeS s4 vs) (L2.wipe σ vs) H4 ∧ (∀ j, A ∉ fp5 j) ∧ H4 A = some (.lst accv) ∧ F4 A = none := by
          intro F4 fp4 s4 H4 r5
          obtain ⟨fp5, r6, e6⟩ := Rl.wipe (W := W.blk (upd W.P A (.lst accv))) r5 (vs := vs) hv
          rw [hw] at r6
          refine ⟨fp5, r6.unguard (same_upd pA _), fun j z => ?_, r5.pr _ _ upd_same, r5.fd _ _ upd_same⟩
          have z2 : upd W.P A (.lst accv) A = none := (r6.fr j A z).2
          rw [upd_same] at z2
          cases z2
        unfold penE at p1
        dsimp only at p1
        cases hf : f s3 with
        | ex x0 s4 =>
          rw [hf] at p1
          exact fun cls dx H4 F4 fp4 g4 r5 hx => by
            obtain ⟨fp5, r6, _⟩ := back r5
            exact p1 cls dx H4 F4 fp5 (g2.trans g4) (Rl.unwipe r6 r) hx
        | no => rw [hf] at p1; exact p1.elim
        | ok ev s4 =>
          rw [hf] at p1
          simp only [NS.R.bind] at p1
          intro yv H4 F4 fp4 g4 r5 q5
          obtain ⟨F5, g5, r6, q6⟩ := Ev.pend (W := W.blk (upd W.P A (.lst accv))) r5 q5
          cases hv5 : evV ev.pend s4 with
          | none => rw [hv5] at p1; exact p1.elim
          | some dd =>
            obtain ⟨d', s5⟩ := dd
            rw [hv5] at p1
            dsimp only at p1
            obtain ⟨F6, fp6, g6, r7, q7, _⟩ := Ep.evV (W := W.blk (upd W.P A (.lst accv))) r6 q6 hv5
            split at p1
            · rename_i hfit
              obtain ⟨fp7, r8, n8, hA8, f8⟩ := back r7
              have hl := na.length
              have gg : Same F1 F6 := g2.trans (g4.trans (g5.trans g6))
              have hfl := fits_le hfit
              refine ⟨accv, hA8, Nat.lt_of_lt_of_le (by omega : accv.length < LN) LN_le, F6, fp7, s5, acc ++ [d'], accv ++ [yv], g1.trans gg, r8.other f8 pA n8, upd_same, (na.mono gg).append (RepFs.one q7), f8, pA, n8, ?_, ?_⟩
              · rw [List.length_append, List.length_singleton]; exact hfl
              · exact Po.up gg p1 fun acc' s' _ z => z
            · exact p1.elim
    · have e : i = ds.length := by omega
      subst e
      rw [List.drop_length] at p1
      refine .inl ⟨hstop rfl, ?_⟩
      have p2 : C acc s1 := p1
      refine hC acc s1 F1 fp1 H g1 (Rl.unwipe r1 r) ⟨[A], ⟨A, accv, rfl, hAv, na, rfl⟩, by simp, fun j b hb hj => ?_, fun b hb => ?_⟩ p2
      · rw [List.mem_singleton.mp hb] at hj
        exact nfp j hj
      · rw [List.mem_singleton.mp hb]
        exact ⟨fA, pA⟩
theorem peX {Y : Cx} {σ0 : L2.St} (hK : Y.K = X.K) (h : ∀ P, SE Y cA ⟨fun cls d _ H => W.w cls d σ0 H, P, W.pn⟩ e f) : PE Y e (tEX X cA W σ0 f) := ⟨fun pins s σ H Q I ⟨P, q⟩ => (h P).run pins s σ H Q I (by rw [hK]; exact q)⟩
/-- a block's parts, its element may raise -/
structure BkX (X : Cx) (cA : Nat → Addr) (W : Gx) (scope : Scope) (tg : Expr) (elt : Expr) (own : List (Str × Nat)) (tt : D → Sl → Option Sl) (is : List Nat) (f : Sl → R EV) : Prop where
  blk : BlkOk X.N X.env.scope scope own
  pn : ∀ i ∈ own.map (·.2), W.pn i = none
  sub : ∀ i ∈ is, i ∈ own.map (·.2)
  tgt : ∃ t, TgB X cA W tg tt is t ∧ ∀ (s : Shared) (H : Hp) (C : Addr) (cl : List (Str × Addr)) (fp : List Addr) (xe : Value → Shared → Prop), PG (NX.blkX X s H scope (compEnvC scope cl C X.env) fp xe) tg t
  elt : ∀ (σ0 : L2.St) (s : Shared) (H : Hp) (C : Addr) (cl : List (Str × Addr)) (fp : List Addr) (xe : Value → Shared → Prop), (∀ σ', PassesAt (L2N.CX X.prog X.w) (NX.blkX X s H scope (compEnvC scope cl C X.env) fp xe) σ' (fun cls d H => W.w cls d σ0 H)) →
    ∀ P, SE (NX.blkX X s H scope (compEnvC scope cl C X.env) fp xe) cA ⟨fun cls d _ H => W.w cls d σ0 H, P, W.pn⟩ elt f
theorem se_lcX {iter elt : Expr} {scope : Scope} {own : List (Str × Nat)} {gi : Sl → R (List D)} {tt : D → Sl → Option Sl} {is : List Nat} (tk : L2N.Takes X W.w) (hst : X.stack = X.env :: X.outer) (hfr : X.env.frame = some X.env.locals) (hc : X.calm = true) (hN : X.N.Nodup) (hi : SI X cA W tg iter gi) (hb : BkX X cA W scope tg elt own tt is f) (hs : notSet iter = true) :
    SE X cA W (.ListComp elt [⟨tg, iter, [], 0⟩] scope pos) (lcX gi tt (own.map (·.2)) f) := by
  obtain ⟨t, ht, hg⟩ := hb.tgt
  refine PE_mono (NX.pe_lcX (te := fun σ => tEX X cA W σ f) tk hst hfr hc hN hi hb.blk hg (fun σ0 s H C cl fp xe hp => peX rfl (hb.elt σ0 s H C cl fp xe hp)) (folded_eq hs)) fun σ H Q h => ?_
  obtain ⟨F, fp, s, r, p⟩ := h
  refine ⟨F, fp, s, r, Po.bind p fun ds s1 _ p1 J H1 F1 fp1 g1 r1 hJ A hA => ?_⟩
  refine lc_okX (F0 := F) (P' := F) (H0 := H) (C := fun acc s2 => Po X.K cA W F1 σ (.ok (.val (.lst true acc)) (wipeS s2 (own.map (·.2)))) (KE X.K cA W F1 σ Q)) hJ (fun F1 fp1 s1 σ1 H g r => g.trans r.fz) hb.pn hb.sub ht r1 hA (Po.up g1 (Po.bind p1 fun acc s2 _ z => z) fun acc s2 _ z => Po.up g1 z fun _ _ _ z => KE_mono _ _ _ _ g1 z) (fun acc s2 F2 fp2 H g r q c => ?_)
  have c : KE X.K cA W F1 σ Q (.val (.lst true acc)) (wipeS s2 (own.map (·.2))) := c
  exact c _ H F2 fp2 g r q
end
end NS
namespace NX
open PySem PySem.Spec PyProof.Rows L2 L2H
/-! ## a comprehension in a suite -/
theorem hot_suite {X : Cx} {a : Addr} {oe : Obj} {cls : Value} {d : Option Addr} {pn : List (Addr × Obj)} (hz : L2N.Zn cls d oe) (hf : ∃ vs, oe.data = .fields vs) : Hot1 (X.suite a ((a, oe) :: pn)).A (a, oe) ∧ (a, oe) ∈ (X.suite a ((a, oe) :: pn)).pn := by
  obtain ⟨vs, hd⟩ := hf
  exact ⟨⟨rfl, vs, hd, hz.2.2 vs hd⟩, List.mem_cons_self⟩
/-- the block, the handled exception in sight -/
abbrev blkH (X : Cx) (s : Shared) (H : Hp) (scope : Scope) (ce : Env) (fp : List Addr) (p : Addr × Obj) : Cx := { X.blk s H scope ce fp with pn := [p] }
theorem inv_re {X : Cx} {pn' pins pins' : List (Addr × Obj)} {σ : List (Option V)} {H : Hp} {s : Shared} (I : Inv X pins σ H s) (h : ∀ p ∈ pn' ++ pins', s.heap.get? p.1 = some p.2 ∧ H p.1 = none ∧ p.1 ≠ X.env.locals ∧ p.1 ∉ X.fs ∧ ∀ v, p.2.data ≠ .cell v) : Inv { X with pn := pn' } pins' σ H s :=
  ⟨⟨I.ok.mod, I.ok.kind, I.ok.glob, I.ok.blt, I.ok.above, I.ok.inj, I.ok.has, I.ok.cab, I.ok.hd, I.ok.frames, I.ok.stk, I.ok.exf, I.ok.bs, I.ok.bsz, I.ok.noex, I.ok.exfs, I.ok.funs, I.ok.frf⟩, I.os, I.bare, I.base, I.loc, I.cell, I.free, I.freeC, h, I.hok, I.len⟩
theorem inv_repin {X : Cx} {pn' pins : List (Addr × Obj)} {σ : List (Option V)} {H : Hp} {s : Shared} (I : Inv X pins σ H s) (h : ∀ p ∈ pn' ++ pins, s.heap.get? p.1 = some p.2 ∧ H p.1 = none ∧ p.1 ≠ X.env.locals ∧ p.1 ∉ X.fs ∧ ∀ v, p.2.data ≠ .cell v) : Inv { X with pn := pn' } pins σ H s :=
  ⟨⟨I.ok.mod, I.ok.kind, I.ok.glob, I.ok.blt, I.ok.above, I.ok.inj, I.ok.has, I.ok.cab, I.ok.hd, I.ok.frames, I.ok.stk, I.ok.exf, I.ok.bs, I.ok.bsz, I.ok.noex, I.ok.exfs, I.ok.funs, I.ok.frf⟩, I.os, I.bare, I.base, I.loc, I.cell, I.free, I.freeC, h, I.hok, I.len⟩
theorem pe_lcH {X : Cx} {elt tg iter : Expr} {ifs : List Expr} {scope : Scope} {own : List (Str × Nat)} {pos : Pos} {wi : TI} {g : TG} {tt : TT} {te : TE} {p : Addr × Obj} (hot : Hot1 X.A p) (hpn : p ∈ X.pn) (hst : X.stack = X.env :: X.outer) (hfr : X.env.frame = some X.env.locals) (hN : X.N.Nodup) (hi : PIH X tg iter wi) (ok : BlkOk X.N X.env.scope scope own)
    (hg : ∀ (s : Shared) (H : Hp) (C : Addr) (cl : List (Str × Addr)) (fp : List Addr), PG (blkH X s H scope (compEnvC scope cl C X.env) fp p) tg g) (ht : ∀ (s : Shared) (H : Hp) (C : Addr) (cl : List (Str × Addr)) (fp : List Addr), PTs (blkH X s H scope (compEnvC scope cl C X.env) fp p) ifs tt)
    (he : ∀ (s : Shared) (H : Hp) (C : Addr) (cl : List (Str × Addr)) (fp : List Addr), PE (blkH X s H scope (compEnvC scope cl C X.env) fp p) elt te) (hs : ∀ x, foldedSetIterable iter X.env x = pure x) :
    PE X (.ListComp elt [⟨tg, iter, ifs, 0⟩] scope pos) (tLc wi g tt te (own.map (·.2))) := by
  refine ⟨fun pins s σ H Q I h => ?_⟩
  rw [eval_ListComp]
  have hfree : ∀ y ∈ scope.names, y.2 = .free → ∃ c, X.env.cells.lookup y.1 = some c := fun y hy e => by
    rcases ok.free y hy e with k | k
    · exact I.ok.has _ (.inl k)
    · exact I.ok.has _ (.inr k)
  refine wpAny_comprehension_free (use := none) rfl hs (closure_ok hfree) ok.kind (fun y hy e => by rw [ok.uniq y hy, e])
    (thn (hi.run pins s σ H _ I h) fun xv s1 hx => thn hx fun itv s2 h2 => ?_)
  obtain ⟨it, fp, tn, J, H2, e, I2, T, st2, f2, q⟩ := h2
  subst e
  refine wpAny_newObj_type (newEnv_comp ?_) (by show 0 ≤ sizeLine; decide)
  generalize hD : s2.heap.objs.size = D
  have hDn : H2 D = none := I2.hok.fresh (Nat.le_of_eq hD)
  obtain ⟨W, ⟨m0, w0⟩, turn⟩ := q D hDn
  generalize hs3 : ({ s2 with heap := s2.heap.push { cls := .type "list", data := .seq ([] : List Value).toArray } } : Shared) = s3
  have I3 : Inv X pins σ (upd H2 D (.lst [])) s3 := by
    rw [← hs3]
    refine I2.laid (t' := s2.toks) (fun b o e => Heap.get?_push_of_some _ e) (Nat.le_of_eq hD) ⟨Nat.zero_le _, [], 0, .nil, ?_⟩
    rw [← hD]
    exact Heap.get?_push_size _ rfl
  have h3 : s3.heap = s2.heap.push { cls := .type "list", data := .seq ([] : List Value).toArray } := by rw [← hs3]
  have sz : ∀ b ∈ fp, b < s2.heap.objs.size := fun b hb => by
    obtain ⟨o, e, _⟩ := T.obj _ _ st2 b hb
    exact Heap.lt_size e
  have f3 : ∀ b ∈ fp, FpOk X pins (upd H2 D (.lst [])) b ∧ b < s3.heap.objs.size := fun b hb => by
    have hlt := sz b hb
    refine ⟨⟨?_, (f2 b hb).2⟩, by rw [h3, Heap.size_push]; exact Nat.lt_succ_of_lt hlt⟩
    rw [upd_ne (by rw [← hD]; exact Nat.ne_of_lt hlt)]
    exact (f2 b hb).1
  have st3 : tn 0 s3.heap := T.keep _ _ _ st2 fun b _ o e => by rw [h3]; exact Heap.get?_push_of_some _ e
  have I4' := block_start I3 ok hN f3
  have pg := hg s3 (upd H2 D (.lst [])) s3.heap.objs.size (cellsFrom (s3.heap.objs.size + 1) scope.names (cloFrom X.env.cells scope.names [])) fp
  have pt := ht s3 (upd H2 D (.lst [])) s3.heap.objs.size (cellsFrom (s3.heap.objs.size + 1) scope.names (cloFrom X.env.cells scope.names [])) fp
  have pe := he s3 (upd H2 D (.lst [])) s3.heap.objs.size (cellsFrom (s3.heap.objs.size + 1) scope.names (cloFrom X.env.cells scope.names [])) fp
  show codeAny _ _ (.compStart (.ListComp elt [⟨tg, iter, ifs, 0⟩] scope pos) 0 (.ref it) (.ref D) (compEnvC scope (cellsFrom (s3.heap.objs.size + 1) scope.names (cloFrom X.env.cells scope.names [])) s3.heap.objs.size X.env)) (compPost (model X.prog X.w) X.A X.xe none (EP X pins σ Q) (.ref D) s3.heap.objs.size) { s3 with heap := pushCells (s3.heap.push { cls := .type "dict", data := .dict #[] }) scope.names }
  have nfp : ∀ b ∈ fp, (upd H2 D (.lst [])) b = none := fun b hb => (f3 b hb).1.1
  generalize hce : compEnvC scope (cellsFrom (s3.heap.objs.size + 1) scope.names (cloFrom X.env.cells scope.names [])) s3.heap.objs.size X.env = ce at I4' pg pt pe ⊢
  have cL : ce.locals = s3.heap.objs.size := by subst hce; rfl
  generalize hH3 : upd H2 D (.lst []) = H3 at I3 I4' pg pt pe w0 nfp f3
  -- the handled exception stays in sight
  obtain ⟨pg1, pg2, pg3, pg4, pg5⟩ := I3.pin p (List.mem_append_left _ hpn)
  have plt : p.1 < s3.heap.objs.size := Heap.lt_size pg1
  have pfs : p.1 ∉ frs X.stack := fun hm => by
    rw [hst] at hm
    obtain ⟨e, he', q'⟩ := List.mem_filterMap.mp hm
    rcases List.mem_cons.mp he' with rfl | he'
    · rw [hfr] at q'
      exact pg3 (Option.some.inj q').symm
    · exact pg4 (List.mem_filterMap.mpr ⟨e, he', q'⟩)
  have I4 : Inv (blkH X s3 H3 scope ce fp p) [] (wipe σ (own.map (·.2))) H3 { s3 with heap := pushCells (s3.heap.push { cls := .type "dict", data := .dict #[] }) scope.names } := by
    refine inv_repin I4' fun q' hq => ?_
    have eq : q' = p := by simpa using hq
    subst eq
    exact ⟨pushCells_keeps _ _ _ _ (Heap.get?_push_of_some _ pg1), pg2, by show q'.1 ≠ ce.locals; rw [cL]; exact Nat.ne_of_lt plt, pfs, pg5⟩
  generalize hs4 : ({ s3 with heap := pushCells (s3.heap.push { cls := .type "dict", data := .dict #[] }) scope.names } : Shared) = s4 at I4 ⊢
  have st4 : tn 0 s4.heap := T.keep _ _ _ st3 fun b _ o e => by rw [← hs4]; exact pushCells_keeps _ _ _ _ (Heap.get?_push_of_some _ e)
  have hc : HotC (blkH X s3 H3 scope ce fp p) := ⟨p, hot, by simp⟩
  have stat : ∀ {σ' : L2.St} {H' : Hp} {s' : Shared}, Inv (blkH X s3 H3 scope ce fp p) [] σ' H' s' → (∀ b ∈ fp, H' b = none) → ∀ b ∈ fp, FpOk (blkH X s3 H3 scope ce fp p) [] H' b := fun {σ' H' s'} I' hn b hb =>
    ⟨hn b hb, (I'.ok.exf b hb).1, I'.ok.exfs b hb, .inl hb, fun x c e => (I'.ok.exf b hb).2 x c e, fun q' hq => by
      have eq : q' = p := by simpa using (show q' ∈ [p] ++ ([] : List (Addr × Obj)) from hq)
      rw [eq]
      exact (f3 b hb).1.2.2.2.2.2 p (List.mem_append_left _ hpn)⟩
  have loop : codeAny (model X.prog X.w) X.A (.compLoop (.ListComp elt [⟨tg, iter, ifs, 0⟩] scope pos) 0 (.ref it) (.ref D) ce) (compPost (model X.prog X.w) X.A X.xe none (EP X pins σ Q) (.ref D) s3.heap.objs.size) s4 := by
    refine compLoop_any (fun n s' => ∃ i H', Inv (blkH X s3 H3 scope ce fp p) [] (wipe σ (own.map (·.2))) H' s' ∧ tn i s'.heap ∧ (∀ b ∈ fp, H' b = none) ∧ W i n H') ?_ m0 ⟨0, H3, I4, st4, nfp, w0⟩
    rintro n s5 ⟨i, H5, I5, st5, n5, w5⟩
    rcases turn i n H5 w5 with ⟨stop, qq⟩ | ⟨go, Nx, hNx, step⟩
    · have td := T.done (blkH X s3 H3 scope ce fp p) rfl rfl rfl hc i [] s5 _ H5 (fun _ _ => False) I5 (stat I5 n5) st5 stop
      refine thnF td fun r s6 ⟨hr, I6⟩ => ?_
      subst hr
      have I7 : Inv X pins σ H5 s6 := I3.call' (ch := fp) I6.os I6.base I6.hok I6.bare fun b hb => ⟨(f3 b hb).1.2.2.2.1, (f3 b hb).1.2.1, (f3 b hb).1.2.2.2.2.1, (f3 b hb).1.2.2.2.2.2⟩
      have nC : H5 s3.heap.objs.size = none := by
        have z : H5 ce.locals = none := I6.free
        rw [cL] at z
        exact z
      obtain ⟨m, hn, _⟩ := I6.loc
      have hn : s6.heap.Ns ce.locals m := hn
      rw [cL] at hn
      obtain ⟨f0, f1, f2, f3, f4, f5⟩ := I3.fpOk (Nat.le_refl _) nC
      exact ⟨m, hn, fun h'' sb => ⟨.ref D, H5, I7.turned (t' := s6.toks) (fun b o hb e => (sb.2 b hb).trans e) f0 f1 f3 f4 f5, rfl, qq⟩⟩
    · have ti := T.item (blkH X s3 H3 scope ce fp p) rfl rfl rfl hc i [] s5 _ H5 (fun _ _ => False) I5 (stat I5 n5) st5 go
      refine thnF ti fun r s6 ⟨u, hr, h6⟩ => ?_
      subst hr
      refine thnF h6 fun _ s7 ⟨x, H7, I7, r7, y7, st7, n7⟩ => ?_
      have I7' := I7.pinned (stat I7 n7) (T.obj _ _ st7)
      refine thnF (pg.run _ s7 _ H7 x u _ I7' r7 (step x H7 y7)) fun _ s8 ⟨σ8, H8, I8, hw8, q8⟩ => ?_
      refine thnF (pt.run _ s8 σ8 H8 _ I8 q8) fun b s9 ⟨H9, I9, q9⟩ => ?_
      have fin : ∀ {s' : Shared} {H' : Hp}, Inv (blkH X s3 H3 scope ce fp p) ([] ++ pinsAt fp s7.heap) σ8 H' s' → Nx H' → ∃ m, m < n ∧ ∃ i H', Inv (blkH X s3 H3 scope ce fp p) [] (wipe σ (own.map (·.2))) H' s' ∧ tn i s'.heap ∧ (∀ b ∈ fp, H' b = none) ∧ W i m H' := fun {s' H'} I' nx => by
        obtain ⟨m', hm, w'⟩ := hNx H' nx
        have pin' : ∀ b ∈ fp, ∀ o, s7.heap.get? b = some o → s'.heap.get? b = some o ∧ H' b = none := fun b hb o e =>
          let z := I'.pin (b, o) (List.mem_append_right _ (List.mem_append_right _ (mem_pinsAt hb e)))
          ⟨z.1, z.2.1⟩
        have hl : (wipe σ (own.map (·.2))).length = σ8.length := by rw [← hw8, wipe_length]
        refine ⟨m', hm, i + 1, H', (I'.unpinned (pins := [])).weak hl (fun j v e => ?_), T.keep _ _ _ st7 fun b hb o e => (pin' b hb o e).1, fun b hb => ?_, w'⟩
        · rw [← hw8] at e
          exact (wipe_some e).1
        · obtain ⟨o, e, _⟩ := T.obj _ _ st7 b hb
          exact (pin' b hb o e).2
      cases b with
      | false =>
        simp only [Bool.false_eq_true, if_false] at q9 ⊢
        exact fin I9 q9
      | true =>
        simp only [if_true] at q9 ⊢
        refine thnF (pe.run _ s9 σ8 H9 _ I9 q9) fun z s10 ⟨yv, H10, I10, r10, acc, hD10, hz10, nx⟩ => ?_
        exact app_ok (X := blkH X s3 H3 scope ce fp p) I10 hD10 hz10 r10 fun s11 I11 => fin I11 nx
  exact codeAny_compStart_list loop (T.self X.A 0 _ _ _ st4 loop)
end NX
namespace NS
open PySem PySem.Spec PyProof.Rows L2 L2H
section
variable {X : Cx} {cA : Nat → Addr} {W : Gx} {e a b c tg : Expr} {es : List Expr} {f g h : Sl → R EV} {pos : Pos}
abbrev SIH (X : Cx) (cA : Nat → Addr) (W : Gx) (tg iter : Expr) (g : Sl → R (List D)) : Prop := PIH X tg iter (tI X.K cA W g)
theorem PIH_mono {t t' : TI} {it : Expr} (h : PIH X tg it t) (w : ∀ σ H R, t' σ H R → t σ H R) : PIH X tg it t' := ⟨fun pins s σ H R I q => h.run pins s σ H R I (w σ H R q)⟩
theorem sih_rng1 {p : Pos} (hg : Gl X "range") (hm : X.mg "range" = none) (ha : SE X cA W a f) (hs : noStar a = true) : SIH X cA W tg (.Call (.Name "range" p) [a] [] pos) (rng1 f) := by
  refine PIH_mono (pi_range1H hg hm (pa_cons ha pa_nil (starEach_cons hs)) (starEach_cons hs)) fun σ H R h => ?_
  have z := one_run (C := fun F => KI X.K cA W F σ R) KI_mono h
  obtain ⟨F, fp, s, rl, p⟩ := z
  refine ⟨F, fp, s, rl, Po.up (Same.refl _) p fun ev s' _ z x H1 F' fp' g' r' q' => ?_⟩
  obtain ⟨F1, fp1, s1, e1, r1, q1, p1⟩ := z x H1 F' fp' g' r' q'
  unfold intK at p1
  split at p1
  · rename_i j hj
    dsimp only at p1
    split at p1
    · rename_i hb
      rw [Bool.and_eq_true] at hb
      have b1 := of_decide_eq_true hb.1
      have b2 := of_decide_eq_true hb.2
      exact ⟨j, by rw [int_of r1 q1 hj], by omega, by omega, p1 _ H1 F1 fp1 (Same.refl _) r1 itd_rng⟩
    · exact p1.elim
  · exact p1.elim
structure BkOkH (X : Cx) (cA : Nat → Addr) (W : Gx) (scope : Scope) (tg : Expr) (ifs : List Expr) (elt : Expr) (own : List (Str × Nat)) (tt : D → Sl → Option Sl) (is : List Nat) (tc : Sl → R Bool) (f : Sl → R EV) (p : Addr × Obj) : Prop where
  blk : BlkOk X.N X.env.scope scope own
  pn : ∀ i ∈ own.map (·.2), W.pn i = none
  sub : ∀ i ∈ is, i ∈ own.map (·.2)
  tgt : ∃ t, TgB X cA W tg tt is t ∧ ∀ (s : Shared) (H : Hp) (C : Addr) (cl : List (Str × Addr)) (fp : List Addr), PG (NX.blkH X s H scope (compEnvC scope cl C X.env) fp p) tg t
  tst : ∀ (s : Shared) (H : Hp) (C : Addr) (cl : List (Str × Addr)) (fp : List Addr), PTs (NX.blkH X s H scope (compEnvC scope cl C X.env) fp p) ifs (tTB X cA W tc)
  elt : ∀ (s : Shared) (H : Hp) (C : Addr) (cl : List (Str × Addr)) (fp : List Addr), PE (NX.blkH X s H scope (compEnvC scope cl C X.env) fp p) elt (tEB X cA W f)
theorem se_lcH {iter elt : Expr} {ifs : List Expr} {scope : Scope} {own : List (Str × Nat)} {gi : Sl → R (List D)} {tt : D → Sl → Option Sl} {is : List Nat} {tc : Sl → R Bool} {p : Addr × Obj} (hot : Hot1 X.A p) (hpn : p ∈ X.pn) (hst : X.stack = X.env :: X.outer) (hfr : X.env.frame = some X.env.locals) (hN : X.N.Nodup) (hi : SIH X cA W tg iter gi) (hb : BkOkH X cA W scope tg ifs elt own tt is tc f p) (hs : notSet iter = true) :
    SE X cA W (.ListComp elt [⟨tg, iter, ifs, 0⟩] scope pos) (lcE gi tt (own.map (·.2)) tc f) := by
  obtain ⟨t, ht, hg⟩ := hb.tgt
  exact PE_mono (NX.pe_lcH hot hpn hst hfr hN hi hb.blk hg hb.tst hb.elt (folded_eq hs)) fun σ H Q h => lc_run (iter := iter) (elt := elt) (ifs := ifs) (scope := scope) hb.pn hb.sub ht h
end
end NS
namespace NS
open PySem PySem.Spec PyProof.Rows L2
/-! ## a method on an object that has just been made: C(e, ..).m() -/
def notSup : Expr → Bool
  | .Call (.Name x _) _ _ _ => !(x == ("super" : Str))
  | _ => true
theorem attrBase_sup {e : Expr} {f : Str} {env : Env} (h : notSup e = true) : attributeBase e f env (eval e env) = eval e env := by
  unfold attributeBase
  split
  · rename_i x p pos
    have h : (!(x == ("super" : Str))) = true := h
    have hx : (x != ("super" : Str)) = true := h
    rw [hx]
    rfl
  · rfl
theorem meth_evalN {o : Expr} {m : Str} {apos pos : Pos} {env : Env} (hb : notSup o = true) (hline : (apos.endLine == pos.line) = true) : eval ((o.Attribute m apos).Call [] [] pos) env = (do
      let ov ← eval o env
      standAt apos.atName
      let (f, first) ← holding [ov] (getMethod ov m (do
        let b ← importBound o env
        pure (b.getD true)))
      callWith pos f first (backTo pos (starEach [] env)) (backToKw pos (keywordEach [] env))) := by
  have e : eval ((o.Attribute m apos).Call [] [] pos) env = (do
      let ov ← attributeBase o m env (eval o env)
      standAt apos.atName
      methodCall o m apos pos env ov (([] : List Expr).length + ([] : List Keyword).length) (backTo pos (starEach [] env)) (backToKw pos (keywordEach [] env))) := by
    rfl
  have few : methodCallForm (([] : List Expr).length + ([] : List Keyword).length) (backTo pos (starEach [] env)) (backToKw pos (keywordEach [] env)) = true := rfl
  rw [e, attrBase_sup hb]
  unfold methodCall
  rw [few]
  unfold calleeOf methodCallPos
  rw [hline]
  rfl
def callNK (cal : List D → CR) (d : D) (s : Sl) : R EV := match cal [d] with
  | .ok d' [_] => .ok (.val d') s
  | .ex x [_] => .ex x s
  | _ => .no
def methN (tb : Nat → Option ((List D → CR) × List Bool × List D)) (m : Str) (g : Sl → R EV) : Sl → R EV := fun s => (g s).bind fun e s1 => match e with
  | .val (.obj true c ks xs) => if ks.contains m then .no else (match tb c with
    | some (cal, [true], []) => callNK cal (.obj true c ks xs) s1
    | _ => .no)
  | _ => .no
section
variable {X : Cx} {cA : Nat → Addr} {W : Gx} {e a b o : Expr} {es : List Expr} {f g : Sl → R EV} {pos : Pos}
theorem callN_ok {F H : Hp} {fp : Nat → List Addr} {s : Sl} {σ : L2.St} {v : V} {d : D} {cal : List D → CR} {Q : VK} (r : Rl X.K cA F W.P W.pn fp s σ H) (q : Ev X.K cA F W.P H fp s σ v (.val d)) (p : Po X.K cA W F σ (callNK cal d s) (KE X.K cA W F σ Q)) :
    spF X.K cA cal [true] [v] H Q fun cls dx H' => W.w cls dx σ H' := by
  obtain ⟨l, w, nd, dj, fr⟩ := q
  have r1 := Rl.push r w nd dj fr
  have hl : s.length = σ.length := r.len
  have hp : ∀ i u, W.pn i = some u → i < s.length := fun i u h => by
    have := r.pn i u h
    rw [hl]
    exact (List.getElem?_eq_some_iff.mp this).1
  refine ⟨F, _, _, [d], r1.split hl (pn' := pnOf [true] [v]) (fun j u h => ?_), rfl, ?_⟩
  · have := (pnOf_some h).2
    show (([some v] : L2.St))[j]? = _
    have e : ([some v] : L2.St) = [v].map some := rfl
    rw [e, List.getElem?_map, this]
    rfl
  have fin : ∀ {F' : Hp} {fp' : Nat → List Addr} {H' : Hp} {ds' : Sl}, Same F F' → Rl X.K cA F' (keepP s.length (fset fp s.length l) H W.P) (pnOf [true] [v]) fp' ds' ([v].map some) H' →
      Rl X.K cA F' W.P W.pn (fun j => if j < s.length then (if j < s.length then fset fp s.length l j else fp' (j - s.length)) else []) s σ H' := by
    intro F' fp' H' ds' g' r'
    exact Rl.cut (r1.join hl g' r') hl hp
  unfold callNK at p
  split at p
  · rename_i d' y hc
    rw [hc]
    refine ⟨rfl, fun u H' F' fp' g' r' q' => ?_⟩
    refine p u H' F' _ g' (fin g' r') ?_
    obtain ⟨l', w', nd', dj', fr'⟩ := q'
    have Psame : ∀ a, (keepP s.length (fset fp s.length l) H W.P) a = none → W.P a = none ∧ ∀ i, i < s.length → a ∉ fset fp s.length l i := fun a h => by
      rcases keepP_cases (fp := fset fp s.length l) (H := H) (P := W.P) s.length a with ⟨i, hi, ha, e⟩ | ⟨hn, e⟩
      · obtain ⟨o, ho⟩ := r1.there ha
        rw [e, ho] at h; cases h
      · rw [e] at h; exact ⟨h, hn⟩
    refine ⟨l', w', nd', fun j a h1 h2 => ?_, fun a ha => ⟨(fr' a ha).1, (Psame a (fr' a ha).2).1⟩⟩
    by_cases hj : j < s.length
    · have h2 : a ∈ (if j < s.length then (if j < s.length then fset fp s.length l j else fp' (j - s.length)) else []) := h2
      rw [if_pos hj, if_pos hj] at h2
      exact (Psame a (fr' a h1).2).2 j hj h2
    · have h2 : a ∈ (if j < s.length then (if j < s.length then fset fp s.length l j else fp' (j - s.length)) else []) := h2
      rw [if_neg hj] at h2
      cases h2
  · rename_i x y hc
    rw [hc]
    refine ⟨rfl, fun cls dx H' F' fp' g' r' q' => ?_⟩
    exact p cls dx H' F' _ g' (fin g' r') q'
  · exact p.elim
/-- C(e, ..).m() -/
theorem se_methN {tb : Nat → Option ((List D → CR) × List Bool × List D)} {m : Str} {apos : Pos} {pl : Sem Bool} (ho : SE X cA W o g) (hF : MtOk X cA tb m) (tk : PaC X W)
    (ht : eval ((o.Attribute m apos).Call [] [] pos) X.env = (do
      let ov ← eval o X.env
      standAt apos.atName
      let (f, first) ← holding [ov] (getMethod ov m pl)
      callWith pos f first (backTo pos (starEach [] X.env)) (backToKw pos (keywordEach [] X.env)))) : SE X cA W (.Call (.Attribute o m apos) [] [] pos) (methN tb m g) := by
  refine ⟨fun pn s σ H Q I h => PySem.W.methodCall_KW (thn (ho.run pn s σ H (fun x H1 => ∃ F fp s1 e1, Rl X.K cA F W.P W.pn fp s1 σ H1 ∧ Ev X.K cA F W.P H1 fp s1 σ x e1 ∧ Po X.K cA W F σ ((match e1 with
    | .val (.obj true c ks xs) => if ks.contains m then .no else (match tb c with
      | some (cal, [true], []) => callNK cal (.obj true c ks xs) s1
      | _ => .no)
    | _ => .no) : R EV) (KE X.K cA W F σ Q)) I ?_) fun u s1 hx => ?_) ht⟩
  · obtain ⟨F, fp, s0, r, p⟩ := h
    refine ⟨F, fp, s0, r, Po.bind p fun e1 s1 _ p1 v H1 F1 fp1 g1 r1 q1 => ⟨F1, fp1, s1, e1, r1, q1, Po.up g1 p1 fun _ _ _ z => KE_mono _ _ _ _ g1 z⟩⟩
  · obtain ⟨x, H1, I1, rx, F, fp, s', e1, r, q, p⟩ := hx
    split at p
    · rename_i c ks xs
      split at p
      · exact p.elim
      · rename_i hc
        split at p
        · rename_i cal hq
          obtain ⟨k, fa, hcl, hm, ⟨⟨fd, ps, dvs, ds, Fk, hb, hd, hR⟩, how⟩, hr⟩ := hF c _ hq
          have q0 := q
          obtain ⟨l, w, _⟩ := q0
          obtain ⟨a, dx, vs0, ls, rfl, h2, _, _⟩ := w
          have hl : (ks.zip vs0).lookup m = none := lookup_no (by simpa using hc)
          have rx : u = .ref a := rx
          subst rx
          have hdv : dvs = [] := by
            have := hR F
            exact this
          subst hdv
          have hds : ds = [] := by
            cases hd
            rfl
          subst hds
          refine getmeth_ok I1 h2 hcl hm hl ?_
          exact PySem.W.callWith_K0 I1.kIn hm.kp (run_fnSD (E := fun σ cls dx H' => W.w cls dx σ H') (vs := [.ref a]) Fk hr hb hd (tk σ) I1 (Paired.cons rfl Paired.nil) (callN_ok r q p))
        · exact p.elim
    · exact p.elim
end
end NS
namespace NS
open PySem PySem.Spec PyProof.Rows L2
/-! ## try: .. except C: suite -/
/-- a suite raises nothing -/
def Fl.qui : Fl → Fl
  | .ex _ _ => .no
  | r => r
def tryO (mt : Nat → Option Bool) (b h : Sl → Fl) : Sl → Fl := fun s => match b s with
  | .ex x s1 => (match mt x.c with
    | some true => (h s1).qui
    | some false => .ex x s1
    | none => .no)
  | r => r
section
variable {X : Cx} {cA : Nat → Addr} {W : Gx} {x : Str} {cv : Value} {body suite : List Stmt} {b₀ : Stmt} {np pos pos' : Pos} {mt : Nat → Option Bool} {fb h : Sl → Fl}
theorem ss_tryO (hs : X.stack = X.env :: X.outer) (hf : X.env.frame = some X.env.locals) (hc : Names X x cv) (tk : L2N.Takes X W.w)
    (hmt : ∀ c b, mt c = some b → PySem.W.exmOne X.K (.ref (cA c)) cv = some b)
    (hb : ∀ (W' : WX) (pn : List (Addr × Obj)) (xe : Value → Shared → Prop), L2N.Takes (X.tr pn xe) W' → PassesOwn (model X.prog X.w) X.A X.env xe → SSs (X.tr pn xe) cA ⟨W', W.P, W.pn⟩ body fb)
    (hsu : ∀ (a : Addr) (oe : Obj) (cls : Value) (d : Option Addr) (pn : List (Addr × Obj)), L2N.Zn cls d oe → (∃ vs, oe.data = .fields vs) → SSs (X.suite a ((a, oe) :: pn)) cA ⟨fun _ _ _ _ => False, W.P, W.pn⟩ (b₀ :: suite) h) :
    SS X cA W (.Try body [.ExceptHandler (some (.Name x np)) none (b₀ :: suite) pos'] [] [] pos) (tryO mt fb h) := by
  refine PS_mono (L2N.ps_try_many (tb := fun W' => tS X.K cA ⟨W', W.P, W.pn⟩ fb) (Wout := W.w) (l := [(cv, fun _ _ _ => tS X.K cA ⟨fun _ _ _ _ => False, W.P, W.pn⟩ h)]) hs hf tk hb (.cons hc (fun a oe cls d pn hz hfl => hsu a oe cls d pn hz hfl) .nil)) fun D σ H hh => ?_
  obtain ⟨F, fp, s, r, p⟩ := hh
  refine ⟨F, fp, s, r, ?_⟩
  unfold tryO at p
  cases e : fb s with
  | nx s1 => rw [e] at p; exact p
  | bk s1 => rw [e] at p; exact p
  | ct s1 => rw [e] at p; exact p
  | rt d s1 => rw [e] at p; exact p
  | no => rw [e] at p; exact p
  | ex xn s1 =>
    rw [e] at p
    intro cls dx σ1 H1 F1 fp1 g1 r1 hx
    have hx0 := hx
    obtain ⟨rfl, dd, vs, rfl, hFd, hHd, hv⟩ := hx
    dsimp only at p
    cases hm : mt xn.c with
    | none => rw [hm] at p; exact p.elim
    | some b =>
      rw [hm] at p
      cases b with
      | false => exact ⟨false, hmt _ _ hm, (fun z => by cases z), fun _ => p _ _ σ1 H1 F1 fp1 g1 r1 hx0⟩
      | true =>
        refine ⟨true, hmt _ _ hm, (fun _ a ha => ?_), fun z => by cases z⟩
        dsimp only at p
        refine ⟨F1, fp1, s1, r1, ?_⟩
        have p := p.up g1
        generalize h s1 = z at p ⊢
        cases z with
        | nx s2 => exact p
        | bk s2 => exact p
        | ct s2 => exact p
        | rt d s2 => exact p
        | ex _ _ => exact p.elim
        | no => exact p.elim
end
end NS
namespace NS
open PySem PySem.Spec PyProof.Rows L2

/-! ## 13. a text's meaning -/
inductive GB where
  | fn (i : Nat)
  | cst (d : D)
  | tab (tb : List (Str × Int))
  | cls (c : Nat)
/-- a class: its name, its __init__ and its methods (numbers of defs), its fields -/
structure Cl where
  nm : Str
  init : Nat
  ms : List (Str × Nat)
  fl : List Str
/-- the fields of the classes -/
def flT (l : List (List Str)) (c : Nat) (f : Str) : Bool := match l[c]? with
  | some fl => fl.contains f
  | none => false
abbrev clOk (cl : List Cl) : Nat → Str → Bool := flT (cl.map fun C => C.fl)
def isM (cl : List Cl) (m : Str) : Bool := cl.any fun C => C.ms.any fun p => p.1 == m
/-- names that stand for dicts -/
def dnm (x : Str) : Bool := x == ("_law_env" : Str) || x == ("_law_inner" : Str) || x == ("_law_table" : Str) || x == ("_law_less_here" : Str) || x == ("_law_more_here" : Str)
/-- a class of errors: its name, its number, its field, its classes -/
structure Xc where
  nm : Str
  ix : Nat
  fl : Str
  anc : List Str
structure Cfg where
  N : List Str
  sc : Scope
  gl : List (Str × GB)
  fs : List (List Bool)
  pz : List Bool
  lp : Bool
  cl : List Cl
  dd : List (List D)
  xs : List Xc
  xn : List Str
  cm : Bool
  su : Option (Nat × Str × Xn)
  tb : Bool
def xcAt : List Xc → Nat → Option Xc
  | [], _ => none
  | e :: xs, c => if Nat.beq e.ix c then some e else xcAt xs c
def xcNm : List Xc → Str → Option Xc
  | [], _ => none
  | e :: xs, x => if e.nm == x then some e else xcNm xs x
/-- is the error c one of C? -/
def mtOf (xs : List Xc) (C : Str) (c : Nat) : Option Bool := (xcAt xs c).map fun e => e.anc.contains C
def mtAny (xs : List Xc) : List Str → Nat → Option Bool
  | [], c => (xcAt xs c).map fun _ => false
  | C :: Cs, c => (mtOf xs C c).bind fun b => if b then some true else mtAny xs Cs c
def pzAt (pz : List Bool) (i : Nat) : List Bool := (pz ++ List.replicate (i + 1 - pz.length) false).set i true
/-- in the suite of the exception x, that the slot i (the name n) holds -/
def Cfg.suit (Γ : Cfg) (i : Nat) (n : Str) (x : Xn) : Cfg := { Γ with fs := [], lp := false, cm := false, su := some (i, n, x), pz := pzAt Γ.pz i }
/-- in a suite without a name -/
def Cfg.suitO (Γ : Cfg) : Cfg := { Γ with fs := [], lp := false, cm := false, su := none }
/-- x.f of an error, f its class's field -/
def hatE (xs : List Xc) (x : Xn) (f : Str) : Sl → R EV := fun s => match xcAt xs x.c with
  | some e => if e.fl == f then xatE x f s else .no
  | none => .no
/-- a parameter list, some of it left to its last values -/
def dflOf (pins : Nat) (given : Nat) (dd : List D) : Option (List D) := if Nat.ble given pins && Nat.ble (pins - given) dd.length then some (dd.drop (dd.length - (pins - given))) else none
abbrev MtE := (List D → CR) × List Bool × List D
def mtL (cal : Nat → List D → CR) (fs : List (List Bool)) (dd : List (List D)) (m : Str) (n : Nat) : Nat → List Cl → List (Nat × MtE)
  | _, [] => []
  | c, C :: cl => match (C.ms.lookup m).bind fun j => (fs[j]?).bind fun pins => (dd[j]?).bind fun ds => (dflOf pins.length (n + 1) ds).map fun r => (cal j, pins, r) with
    | some q => (c, q) :: mtL cal fs dd m n (c + 1) cl
    | none => mtL cal fs dd m n (c + 1) cl
def mtF (l : List (Nat × MtE)) (c : Nat) : Option MtE := l.lookup c
def mapO {α β : Type} (f : α → Option β) : List α → Option (List β)
  | [] => some []
  | a :: as => (f a).bind fun b => (mapO f as).bind fun bs => some (b :: bs)
def visB (sc : Scope) (x : Str) : Bool := match sc.names.lookup x with
  | some .local => true
  | some .cell => true
  | some .free => true
  | _ => false
def glB (sc : Scope) (x : Str) : Bool := match sc.names.lookup x with
  | some .globalImplicit => true
  | _ => false
def slotOf (x : Str) : List Str → Option Nat
  | [] => none
  | y :: ys => if x == y then some 0 else (slotOf x ys).map (· + 1)
def okName (x : Str) : Bool := !(x == ("__debug__" : Str)) && !(x == ("__classdict__" : Str))
/-- names that may be stored to -/
def locB (Γ : Cfg) (x : Str) : Bool := match Γ.sc.names.lookup x with
  | some .local => true
  | some .cell => Γ.lp
  | _ => false
def slotV (Γ : Cfg) (x : Str) : Option Nat := if visB Γ.sc x && okName x then slotOf x Γ.N else none
def slotL (Γ : Cfg) (x : Str) : Option Nat := if locB Γ x then (slotOf x Γ.N).bind fun i => match Γ.pz[i]? with
  | some true => none
  | _ => some i else none
def nmSlots (Γ : Cfg) : List Expr → Option (List Nat)
  | [] => some []
  | .Name x _ :: es => (slotL Γ x).bind fun i => (nmSlots Γ es).bind fun is => some (i :: is)
  | _ => none
def semG (Γ : Cfg) : Expr → Option ((D → Sl → Option Sl) × List Nat)
  | .Name x _ => (slotL Γ x).map fun i => (tgN i, [i])
  | .Tuple es _ _ => if Γ.cm then (nmSlots Γ es).map fun is => (tgT' is, is) else none
  | _ => none
def ownOf (N : List Str) : List (Str × NameKind) → List (Str × Nat)
  | [] => []
  | (x, k) :: r => match k, slotOf x N with
    | .local, some i => (x, i) :: ownOf N r
    | .cell, some i => (x, i) :: ownOf N r
    | _, _ => ownOf N r
def isGl (Γ : Cfg) (x : Str) : Bool := glB Γ.sc x && (Γ.gl.lookup x).isNone
def freeP (pz : List Bool) (p : Str × Nat) : Bool := match pz[p.2]? with
  | some true => false
  | _ => true
/-- a name of a slot, walked -/
def walked (Γ : Cfg) : Expr → Option Nat
  | .Name x _ => slotV Γ x
  | _ => none
/-- a dict's name, walked -/
def dIter : Expr → Bool
  | .Name x _ => dnm x
  | _ => false
def tabOf (Γ : Cfg) (x : Str) : Option (List (Str × Int)) := if glB Γ.sc x && okName x then (match Γ.gl.lookup x with
  | some (.tab tb) => some tb
  | _ => none) else none
def whFuel : Nat := 100000
/-- an element that may raise: a method's call -/
def rzB (Γ : Cfg) : Expr → Bool
  | .Call (.Attribute _ m _) _ [] _ => isM Γ.cl m
  | _ => false
def clNames : List Expr → Option (List Str)
  | [] => some []
  | .Name x _ :: es => (clNames es).map (x :: ·)
  | _ => none
def xnB (Γ : Cfg) (C : Str) : Bool := glB Γ.sc C && (okName C && Γ.xn.contains C)
/-- e.f, isinstance(e, C), isinstance(e, (C, ..)): e the exception that is held -/
def suAt (Γ : Cfg) (o : Expr) (f : Str) : Option (Sl → R EV) := match Γ.su, o with
  | some (i, n, x), .Name m _ => if m == n && (visB Γ.sc n && okName n) then some (hatE Γ.xs x f) else none
  | _, _ => none
def suIs (Γ : Cfg) (o : Expr) (C : Str) : Option (Sl → R EV) := match Γ.su, o with
  | some (i, n, x), .Name m _ => if m == n && (visB Γ.sc n && (okName n && (isGl Γ "isinstance" && xnB Γ C))) then some (isxE (mtOf Γ.xs C x.c)) else none
  | _, _ => none
def suIsT (Γ : Cfg) (o : Expr) (es : List Expr) : Option (Sl → R EV) := match Γ.su, o with
  | some (i, n, x), .Name m _ => (clNames es).bind fun Cs => if m == n && (visB Γ.sc n && (okName n && (isGl Γ "isinstance" && (Cs.all (xnB Γ) && Nat.ble Cs.length 100)))) then some (isxE (mtAny Γ.xs Cs x.c)) else none
  | _, _ => none

mutual
def semE (cal : Nat → List D → CR) : Nat → Cfg → Expr → Option (Sl → R EV)
  | 0, _, _ => none
  | n + 1, Γ, e => some (match semE0 cal n Γ e with
    | some f => f
    | none => noE)
def semE0 (cal : Nat → List D → CR) : Nat → Cfg → Expr → Option (Sl → R EV)
  | 0, _, _ => none
  | n + 1, Γ, .Dict [] [] _ => some dnewE
  | n + 1, Γ, .Dict ks vs _ => (cpairs ks vs).bind fun r => if !r.isEmpty && Nat.ble r.length 15 then some (constE (dconD r)) else none
  | n + 1, Γ, .Name x _ => if visB Γ.sc x then (slotV Γ x).map nameE else if glB Γ.sc x && okName x then (match Γ.gl.lookup x with
      | some (.cst d) => some (constE d)
      | _ => none) else none
  | n + 1, Γ, .Constant (.int i) _ _ => some (constE (.int i))
  | n + 1, Γ, .Constant (.bool b) _ _ => some (constE (.bl b))
  | n + 1, Γ, .Constant .none _ _ => some (constE .non)
  | n + 1, Γ, .Constant (.str x) _ _ => some (constE (.str x))
  | n + 1, Γ, .Tuple es _ _ => if es.all noStar then (mapO (semE cal n Γ) es).map fun fs => tupE (valsE fs) else (semX cal n Γ es).map fun fs => tupE (valsX fs)
  | n + 1, Γ, .List es _ => if es.all noStar then (mapO (semE cal n Γ) es).map fun fs => lstE (valsE fs) else (semX cal n Γ es).map fun fs => lstE (valsX fs)
  | n + 1, Γ, .BinOp a o b _ => (semE cal n Γ a).bind fun f => (semE cal n Γ b).bind fun g => some (bin2 f g (op2K (binD o)))
  | n + 1, Γ, .UnaryOp .USub a _ => (semE cal n Γ a).bind fun f => some (penE f (op1K negD))
  | n + 1, Γ, .UnaryOp .Not a _ => (semE cal n Γ a).bind fun f => some (notE f)
  | n + 1, Γ, .BoolOp _ [a] _ => semE cal n Γ a
  | n + 1, Γ, .BoolOp .And (a :: b :: r) p => (semE cal n Γ a).bind fun f => (semE cal n Γ (.BoolOp .And (b :: r) p)).bind fun g => some (andE f g)
  | n + 1, Γ, .BoolOp .Or (a :: b :: r) p => (semE cal n Γ a).bind fun f => (semE cal n Γ (.BoolOp .Or (b :: r) p)).bind fun g => some (orE f g)
  | n + 1, Γ, .Compare a [o] [b] _ => if notSet b then (semE cal n Γ a).bind fun f => (semE cal n Γ b).bind fun g => some (valB (cmpT o f g)) else none
  | n + 1, Γ, .Compare a [o, o'] [b, c] _ => if notSet c then (semE cal n Γ a).bind fun f => (semE cal n Γ b).bind fun g => (semE cal n Γ c).bind fun h => some (valB (chainT o o' f g h)) else none
  | n + 1, Γ, .IfExp c a b _ => (semT cal n Γ c).bind fun t => (semE cal n Γ a).bind fun f => (semE cal n Γ b).bind fun g => some (ifE t f g)
  | n + 1, Γ, .Subscript a (.Slice none none (some (.UnaryOp .USub (.Constant (.int 1) _ _) _)) _) _ => (semE cal n Γ a).map fun f => penE f (op1K revD)
  | n + 1, Γ, .Subscript a (.Slice lo hi none _) _ => (semE cal n Γ a).bind fun f => (semO cal n Γ lo).bind fun l => (semO cal n Γ hi).bind fun h => some (slE f l h)
  | n + 1, Γ, .Subscript a b _ => if notSlice b then (semE cal n Γ a).bind fun f => (semE cal n Γ b).bind fun g => some (bin2 f g ixK) else none
  | n + 1, Γ, .ListComp elt [⟨tg, iter, ifs, 0⟩] scope _ => if Γ.su.isSome then (match iter, ifs with
      | .Call (.Name x _) [a] [] _, [] =>
        let own : List (Str × Nat) := ownOf Γ.N scope.names
        let Γ' : Cfg := { Γ with sc := relS scope Γ.sc, lp := false, su := none }
        if (x == ("range" : Str) && (isGl Γ x && noStar a)) && (blkC Γ.N Γ.sc scope own && own.all (freeP Γ.pz)) then (semE cal n Γ a).bind fun fa => (semG Γ' tg).bind fun (t : (D → Sl → Option Sl) × List Nat) => (semE cal n Γ' elt).bind fun (f : Sl → R EV) => if t.2.all (fun (i : Nat) => (own.map (fun (p : Str × Nat) => p.2)).contains i) then some (lcE (rng1 fa) t.1 (own.map (fun (p : Str × Nat) => p.2)) yesT f) else none
        else none
      | _, _ => none)
    else if rzB Γ elt && (ifs.isEmpty && (walked Γ iter).isNone) then
      let own : List (Str × Nat) := ownOf Γ.N scope.names
      let Γ' : Cfg := { Γ with sc := relS scope Γ.sc, lp := false, su := none, tb := false }
      if (Γ.cm && (Γ.lp && Γ.tb)) && (blkC Γ.N Γ.sc scope own && (notSet iter && own.all (freeP Γ.pz))) then (semI cal n Γ tg iter).bind fun gi => (semG { Γ with sc := relS scope Γ.sc, lp := false, su := none } tg).bind fun (t : (D → Sl → Option Sl) × List Nat) => (semE cal n Γ' elt).bind fun (f : Sl → R EV) => if t.2.all (fun (i : Nat) => (own.map (fun (p : Str × Nat) => p.2)).contains i) then some (lcX gi t.1 (own.map (fun (p : Str × Nat) => p.2)) f) else none
      else none
    else if dIter iter then semLd cal n Γ elt tg iter ifs scope else semLc cal n Γ elt tg iter ifs scope
  | n + 1, Γ, .Call (.Name x _) args [] _ => if glB Γ.sc x && okName x && args.all noStar then (match Γ.gl.lookup x with
      | some (.fn i) => (match args, Γ.fs[i]? with
        | _ :: _, some pins => if Nat.blt args.length pins.length then ((Γ.dd[i]?).bind fun dd => (dflOf pins.length args.length dd).bind fun r => (mapO (semE cal n Γ) args).map fun fs => callDE (cal i) pins r fs) else (mapO (semE cal n Γ) args).map fun fs => callE (cal i) pins fs
        | [], some pins => some (callE (cal i) pins [])
        | _, _ => none)
      | some (.cst _) => none
      | some (.tab _) => none
      | some (.cls c) => (Γ.cl[c]?).bind fun C => (Γ.fs[C.init]?).bind fun pins => (Γ.dd[C.init]?).bind fun dd => (match pins with
        | true :: pins' => (dflOf pins'.length args.length dd).bind fun r => (mapO (semE cal n Γ) args).map fun fs => makeDE (cal (1000 + C.init)) pins' c r fs
        | _ => none)
      | none => (match args with
        | [.Call (.Name y _) [a] [] _] => if x == ("list" : Str) && (y == ("range" : Str) && (isGl Γ y && (noStar a && Γ.cm))) then (semE cal n Γ a).map fun f => penE f (op1K lrngD) else semB cal n Γ x args
        | [.Call (.Name y _) [a, b] [] _] => if x == ("list" : Str) && (y == ("zip" : Str) && (isGl Γ y && (noStar a && (noStar b && Γ.cm)))) then (semE cal n Γ a).bind fun f => (semE cal n Γ b).map fun g => lzipE f g else semB cal n Γ x args
        | [a, .Name y _] => if x == ("isinstance" : Str) then (match TN.of y with
          | some t => if isGl Γ y then (semE cal n Γ a).map fun f => isiE t f else none
          | none => suIs Γ a y) else semB cal n Γ x args
        | [a, .Tuple es _ _] => if x == ("isinstance" : Str) then suIsT Γ a es else semB cal n Γ x args
        | _ => semB cal n Γ x args)) else none
  | n + 1, Γ, .Call (.Attribute o m apos) args [] cpos => if (apos.endLine == cpos.line) then (if isM Γ.cl m then (if notCall o && (args.all noStar && Nat.blt args.length 30) then (semE cal n Γ o).bind fun g => (mapO (semE cal n Γ) args).map fun fs => methE (mtF (mtL cal Γ.fs Γ.dd m args.length 0 Γ.cl)) m g fs else (match args with
      | [] => if notSup o then (semE cal n Γ o).map fun g => methN (mtF (mtL cal Γ.fs Γ.dd m 0 0 Γ.cl)) m g else none
      | _ => none)) else (match args with
      | [a] => if noStar a && (m == ("index" : Str) && (notCall o && (Γ.cm && Γ.tb))) then (semE cal n Γ o).bind fun g => (semE cal n Γ a).map fun f => idxE g f else if noStar a && (m == ("split" : Str) && notCall o) then (semE cal n Γ o).bind fun g => (semE cal n Γ a).map fun f => strM splitD g f else if noStar a && (m == ("join" : Str) && notCall o) then (semE cal n Γ o).bind fun g => (semE cal n Γ a).map fun f => strM joinD g f else semM cal n Γ o m args
      | [] => if m == ("upper" : Str) && notCall o then (semE cal n Γ o).map fun g => upE g else semM cal n Γ o m []
      | _ => semM cal n Γ o m args)) else none
  | n + 1, Γ, .Attribute o f _ => match suAt Γ o f with
    | some g => some g
    | none => if notCall o then (semE cal n Γ o).map fun g => attrE (clOk Γ.cl) f g else none
  | _, _, _ => none
def semM (cal : Nat → List D → CR) : Nat → Cfg → Expr → Str → List Expr → Option (Sl → R EV)
  | 0, _, _, _, _ => none
  | n + 1, Γ, .Name x _, m, args => (match slotV Γ x with
    | some i => (match args with
      | [] => if m == ("pop" : Str) then some (popE i) else none
      | [a] => if noStar a then (semE cal n Γ a).bind fun f => if m == ("append" : Str) then some (appE i f) else if m == ("extend" : Str) then some (extE i f) else if m == ("get" : Str) then some (dget1E i f) else none else none
      | [a, b] => if noStar a && (noStar b && m == ("get" : Str)) then (semE cal n Γ a).bind fun f => (semE cal n Γ b).map fun g => dget2E i f g else none
      | _ => none)
    | none => if glB Γ.sc x && okName x then (match Γ.gl.lookup x, args with
      | some (.tab tb), [a, b] => if noStar a && (noStar b && m == ("get" : Str)) then (semE cal n Γ a).bind fun f => (semE cal n Γ b).map fun g => tgetE tb f g else none
      | _, _ => none) else none)
  | _, _, _, _, _ => none
def semX (cal : Nat → List D → CR) : Nat → Cfg → List Expr → Option (List (Bool × (Sl → R EV)))
  | 0, _, _ => none
  | n + 1, Γ, [] => some []
  | n + 1, Γ, .Starred e _ :: es => (semE cal n Γ e).bind fun f => (semX cal n Γ es).bind fun fs => some ((true, f) :: fs)
  | n + 1, Γ, e :: es => if noStar e then (semE cal n Γ e).bind fun f => (semX cal n Γ es).bind fun fs => some ((false, f) :: fs) else none
def semB (cal : Nat → List D → CR) : Nat → Cfg → Str → List Expr → Option (Sl → R EV)
  | 0, _, _, _ => none
  | n + 1, Γ, x, args => if Γ.cm then match args, BI.of x with
    | _ :: _, some b => (mapO (semE cal n Γ) args).map fun fs => bltE b.op fs
    | [_], none => if x == ("dict" : Str) then (mapO (semE cal n Γ) args).map fun fs => bltE dictOp fs else if x == ("sorted" : Str) then (mapO (semE cal n Γ) args).map fun fs => bltE sortedOp fs else none
    | _, _ => none
    else none
def semO (cal : Nat → List D → CR) : Nat → Cfg → Option Expr → Option (Option (Sl → R EV))
  | 0, _, _ => none
  | n + 1, Γ, none => some none
  | n + 1, Γ, some e => (semE cal n Γ e).map some
def semT (cal : Nat → List D → CR) : Nat → Cfg → Expr → Option (Sl → R Bool)
  | 0, _, _ => none
  | n + 1, Γ, e => some (match semT0 cal n Γ e with
    | some f => f
    | none => noT)
def semT0 (cal : Nat → List D → CR) : Nat → Cfg → Expr → Option (Sl → R Bool)
  | 0, _, _ => none
  | n + 1, Γ, .Compare a [.In] [.Name x p] _ => (match tabOf Γ x with
    | some tb => (semE cal n Γ a).map fun f => tinT tb f
    | none => (semE cal n Γ a).bind fun f => (semE cal n Γ (.Name x p)).bind fun g => some (cmpT .In f g))
  | n + 1, Γ, .UnaryOp .Not a _ => (semT cal n Γ a).map notT
  | n + 1, Γ, .BoolOp o es p => semW cal n Γ o es p
  | n + 1, Γ, .Compare a [o] [b] _ => if notSet b then (semE cal n Γ a).bind fun f => (semE cal n Γ b).bind fun g => some (cmpT o f g) else none
  | n + 1, Γ, .Compare a [o, o'] [b, c] _ => if notSet c then (semE cal n Γ a).bind fun f => (semE cal n Γ b).bind fun g => (semE cal n Γ c).bind fun h => some (chainT o o' f g h) else none
  | n + 1, Γ, e => if plainTest e then (semE cal n Γ e).map truT else none
def semW (cal : Nat → List D → CR) : Nat → Cfg → BoolOp → List Expr → Pos → Option (Sl → R Bool)
  | 0, _, _, _, _ => none
  | n + 1, Γ, o, [a], p => semT cal n Γ a
  | n + 1, Γ, .And, a :: b :: r, p => (semT cal n Γ a).bind fun f => (semW cal n Γ .And (b :: r) p).bind fun g => some (andT f g)
  | n + 1, Γ, .Or, a :: b :: r, p => (semT cal n Γ a).bind fun f => (semW cal n Γ .Or (b :: r) p).bind fun g => some (orT f g)
  | _, _, _, _, _ => none
def semI (cal : Nat → List D → CR) : Nat → Cfg → Expr → Expr → Option (Sl → R (List D))
  | 0, _, _, _ => none
  | n + 1, Γ, tg, .Call (.Name x p) args [] pos => if isGl Γ x && args.all noStar then (match args with
      | [a] => if x == ("range" : Str) then (semE cal n Γ a).map rng1 else if x == ("enumerate" : Str) then (match tg with
        | .Tuple _ _ _ => (semE cal n Γ a).map enumI
        | _ => none) else (semE cal n Γ (.Call (.Name x p) args [] pos)).map fun f => plI (seqI f)
      | [a, b] => if x == ("range" : Str) then (semE cal n Γ a).bind fun f => (semE cal n Γ b).map fun g => rng2 f g else if x == ("zip" : Str) then (match tg with
        | .Tuple _ _ _ => (semE cal n Γ a).bind fun f => (semE cal n Γ b).map fun g => zipI f g
        | _ => none) else (semE cal n Γ (.Call (.Name x p) args [] pos)).map fun f => plI (seqI f)
      | _ => none) else (semE cal n Γ (.Call (.Name x p) args [] pos)).map fun f => plI (seqI f)
  | n + 1, Γ, _, e => (semE cal n Γ e).map fun f => plI (seqI f)
def semLc (cal : Nat → List D → CR) : Nat → Cfg → Expr → Expr → Expr → List Expr → Scope → Option (Sl → R EV)
  | 0, _, _, _, _, _, _ => none
  | n + 1, Γ, elt, tg, iter, ifs, scope =>
    let own : List (Str × Nat) := ownOf Γ.N scope.names
    let Γ' : Cfg := { Γ with sc := relS scope Γ.sc, lp := false, su := none }
    if Γ.cm && (blkC Γ.N Γ.sc scope own && notSet iter && own.all (freeP Γ.pz)) then (semI cal n Γ tg iter).bind fun gi => (semG Γ' tg).bind fun (t : (D → Sl → Option Sl) × List Nat) => (match ifs with
        | [] => some yesT
        | [c] => semT cal n Γ' c
        | _ => none).bind fun (tc : Sl → R Bool) => (semE cal n Γ' elt).bind fun (f : Sl → R EV) => if t.2.all (fun (i : Nat) => (own.map (fun (p : Str × Nat) => p.2)).contains i) then some (match walked Γ iter with
          | some i => lcO i t.1 (own.map (fun (p : Str × Nat) => p.2)) tc f
          | none => lcE gi t.1 (own.map (fun (p : Str × Nat) => p.2)) tc f) else none
    else none
def semLd (cal : Nat → List D → CR) : Nat → Cfg → Expr → Expr → Expr → List Expr → Scope → Option (Sl → R EV)
  | 0, _, _, _, _, _, _ => none
  | n + 1, Γ, elt, tg, iter, ifs, scope =>
    let own : List (Str × Nat) := ownOf Γ.N scope.names
    let Γ' : Cfg := { Γ with sc := relS scope Γ.sc, lp := false, su := none }
    if Γ.cm && (blkC Γ.N Γ.sc scope own && own.all (freeP Γ.pz)) then (walked Γ iter).bind fun (i : Nat) => (semG Γ' tg).bind fun (t : (D → Sl → Option Sl) × List Nat) => (match ifs with
        | [] => some yesT
        | [c] => semT cal n Γ' c
        | _ => none).bind fun (tc : Sl → R Bool) => (semE cal n Γ' elt).bind fun (f : Sl → R EV) => if t.2.all (fun (i : Nat) => (own.map (fun (p : Str × Nat) => p.2)).contains i) then some (lcD i t.1 (own.map (fun (p : Str × Nat) => p.2)) tc f) else none
    else none
end
def brkS : Sl → Fl := fun s => .bk s
def cntS : Sl → Fl := fun s => .ct s
def swB (elt : Expr) (scope : Scope) (pos : Pos) (y : Str) (py : Pos) (sl : Nat) (sc : Scope) : Bool := (match sc.names.lookup y with
  | some .local => true
  | _ => false) && (match sc.kind with
  | .function => true
  | _ => false) && (py.line == pos.line) && !(scope.names.any fun (n, k) => n == y && (k == .local || k == .cell))
def cellB (sc : Scope) (x : Str) : Bool := match sc.names.lookup x with
  | some .cell => true
  | _ => false
mutual
def semS (cal : Nat → List D → CR) : Nat → Cfg → Stmt → Option (Sl → Fl)
  | 0, _, _ => none
  | n + 1, Γ, st => some (match semS0 cal n Γ st with
    | some f => f
    | none => noS)
def semS0 (cal : Nat → List D → CR) : Nat → Cfg → Stmt → Option (Sl → Fl)
  | 0, _, _ => none
  | n + 1, Γ, .Pass _ => some nxS
  | n + 1, Γ, .Break _ => some brkS
  | n + 1, Γ, .Continue _ => some cntS
  | n + 1, Γ, .Expr (.Constant (.str _) _ _) _ => some nxS
  | n + 1, Γ, .Return none _ => some retN
  | n + 1, Γ, .Return (some e) _ => (semE cal n Γ e).map retS
  | n + 1, Γ, .Expr e _ => if notComp e then (semE cal n Γ e).map exprS else none
  | n + 1, Γ, .If c a b _ => (semT cal n Γ c).bind fun t => (semSs cal n Γ a).bind fun f => (semSs cal n Γ b).bind fun g => some (ifS t f g)
  | n + 1, Γ, .Assign [.Name x py] e spos => (slotL Γ x).bind fun i => (match e with
      | .ListComp elt [⟨tg, iter, ifs, 0⟩] scope pos => if swB elt scope pos x py spos.line Γ.sc && (Γ.lp && Γ.cm) then (if dIter iter then semLd cal n Γ elt tg iter ifs scope else semLc cal n Γ elt tg iter ifs scope).map (setS i) else if cellB Γ.sc x && (!dIter iter && Γ.cm) then (semLc cal n Γ elt tg iter ifs scope).map (setS i) else none
      | e => if notComp e then (semE cal n Γ e).map (setS i) else none)
  | n + 1, Γ, .Assign [.Tuple es k p] e _ => if notComp e && (match e with
      | .Tuple _ _ _ => false
      | _ => true) then (semG Γ (.Tuple es k p)).bind fun t => (semE cal n Γ e).map fun f => asgS t.1 f else none
  | n + 1, Γ, .Assign [.Subscript (.Name x p1) b p2] e _ => if notComp e && notSlice b then (slotV Γ x).bind fun i => (semE cal n Γ b).bind fun g => (semE cal n Γ e).map fun f => if dnm x then dstoS i g f else stoS i g f else none
  | n + 1, Γ, .Assign [.Attribute (.Name x _) f _] e _ => if notComp e then (slotV Γ x).bind fun i => (semE cal n Γ e).map fun g => astoS (clOk Γ.cl) i f g else none
  | n + 1, Γ, .AugAssign (.Attribute (.Name x _) f _) .Add e _ => if notComp e then (slotV Γ x).bind fun i => (semE cal n Γ e).map fun g => aaugS (clOk Γ.cl) i f g else none
  | n + 1, Γ, .For tg iter body [] _ => if (Γ.lp && Γ.cm) && notSet iter then if dIter iter then (walked Γ iter).bind fun i => (semG Γ tg).bind fun t => (semSs cal n Γ body).bind fun f => some (forD i t.1 f) else (semI cal n Γ tg iter).bind fun gi => (semG Γ tg).bind fun t => (semSs cal n Γ body).bind fun f => some (forS gi t.1 f) else none
  | n + 1, Γ, .Raise (some (.Call (.Name x _) [e] [] _)) none _ => if (Γ.cm && Γ.tb) && (glB Γ.sc x && (okName x && ((Γ.gl.lookup ("super" : Str)).isNone && noStar e))) then (xcNm Γ.xs x).bind fun E => (semE cal n Γ e).map fun f => raiseE E.ix E.fl f else none
  | n + 1, Γ, .Try body [.ExceptHandler (some (.Name x _)) (some nm) (b₀ :: suite) _] [] [] _ => if (Γ.lp && Γ.tb) && (Γ.su.isNone && (visB Γ.sc nm && (okName nm && xnB Γ x))) then (match Γ.sc.names.lookup nm with
      | some .local => (slotL Γ nm).bind fun i => (semSs cal n Γ body).map fun f => tryS (mtOf Γ.xs x) i f fun xn => (match semSs cal n (Γ.suit i nm xn) (b₀ :: suite) with
        | some g => g
        | none => noS)
      | _ => none) else none
  | n + 1, Γ, .Try body [.ExceptHandler (some (.Name x _)) none (b₀ :: suite) _] [] [] _ => if (Γ.lp && Γ.tb) && (Γ.su.isNone && xnB Γ x) then (semSs cal n Γ body).map fun f => tryO (mtOf Γ.xs x) f (match semSs cal n Γ.suitO (b₀ :: suite) with
      | some g => g
      | none => noS) else none
  | n + 1, Γ, .While c body [] _ => if Γ.lp then (semT cal n Γ c).bind fun t => (semSs cal n Γ body).bind fun f => some (whL t f whFuel) else none
  | _, _, _ => none
def semSs (cal : Nat → List D → CR) : Nat → Cfg → List Stmt → Option (Sl → Fl)
  | 0, _, _ => none
  | n + 1, Γ, [] => some nxS
  | n + 1, Γ, [st] => semS cal n Γ st
  | n + 1, Γ, st :: sts => (semS cal n Γ st).bind fun f => (semSs cal n Γ sts).bind fun g => some (seqS f g)
end
end NS
namespace NS
open PySem PySem.Spec PyProof.Rows L2

/-! ## 14. the meaning is right -/
def bltNames : List Str := ["len", "int", "str", "list", "tuple", "dict", "max", "min", "sum", "any", "all", "sorted", "range", "zip", "enumerate", "isinstance", "bool", "super"]
structure Cok (cal : Nat → List D → CR) (cA : Nat → Addr) (X : Cx) (W : Gx) (Γ : Cfg) : Prop where
  N : X.N = Γ.N
  nd : Γ.N.Nodup
  sc : X.env.scope = Γ.sc
  calm : Γ.cm = true → X.calm = true
  glo : ∀ x d, Γ.gl.lookup x = some (.cst d) → ∃ v u, X.mg x = some u ∧ RelV v u ∧ d.own = false ∧ RepF X.K cA (fun _ => none) d v
  fns : ∀ x i pins, Γ.gl.lookup x = some (.fn i) → Γ.fs[i]? = some pins → ∃ k fa fd ps, FnOk X.prog X.w X.K X.mg X.base (L2N.CX X.prog X.w) k fa fd ps (spF X.K cA (cal i) pins) ∧ Room k X.A ∧ X.mg x = some (.ref fa) ∧ PySem.W.keepIn X.K (.ref fa) = true ∧ L2.Binds X.K fd ps []
  blt : ∀ x, Γ.gl.lookup x = none → x ∈ bltNames → X.mg x = none
  tab : ∀ x tb, Γ.gl.lookup x = some (.tab tb) → ∃ t, X.mg x = some (.ref t) ∧ TabAt X t tb
  tk : Γ.tb = true → L2N.Takes X W.w
  pa : PaC X W
  pins : ∀ i, Γ.pz[i]? ≠ some true → W.pn i = none
  lp : Γ.lp = true → PassesOwn (model X.prog X.w) X.A X.env X.xe ∧ ∀ x, X.fn x = true
  st : Γ.lp = true → X.stack = X.env :: X.outer ∧ X.env.frame = some X.env.locals
  xcl : ∀ e ∈ Γ.xs, XkC X.K (cA e.ix) ∧ PySem.W.findIn X.K (.ref (cA e.ix)) e.fl = some none ∧ ∃ fI, NX.ExTxt X.prog X.K (cA e.ix) fI e.fl ∧ X.mg e.nm = some (.ref (cA e.ix))
  xnm : ∀ x ∈ Γ.xn, ∃ cv, clsV cv = true ∧ (X.mg x = some cv ∨ (X.mg x = none ∧ bootBuiltins x = some cv ∧ x ≠ "__name__")) ∧ ∀ e ∈ Γ.xs, PySem.W.exmOne X.K (.ref (cA e.ix)) cv = some (e.anc.contains x) ∧ PySem.W.kitOne X.K (.ref (cA e.ix)) cv = some (e.anc.contains x)
  rm : Γ.cm = true → Γ.xs ≠ [] → Room 0 X.A
  su : ∀ i n x, Γ.su = some (i, n, x) → ∃ (Y : Cx) (a dd : Addr) (oe : Obj) (pn : List (Addr × Obj)) (W0 : Gx), X = Cx.suite Y a ((a, oe) :: pn) ∧ W = suG W0 i a dd (fsOf x) ∧ L2N.Zn (.ref (cA x.c)) (some dd) oe ∧ (∃ vs, oe.data = .fields vs) ∧ slotOf n Γ.N = some i ∧ Y.stack = Y.env :: Y.outer ∧ Y.env.frame = some Y.env.locals
  un : X.A.units + 130 < cLine
  dfs : ∀ x i pins dd q, Γ.gl.lookup x = some (.fn i) → Γ.fs[i]? = some pins → Γ.dd[i]? = some dd → ∃ k fa, Dfl X cA k fa (cal i) pins (dd.drop q) ∧ Room k X.A ∧ X.mg x = some (.ref fa) ∧ PySem.W.keepIn X.K (.ref fa) = true
  okc : OkC X cA (clOk Γ.cl)
  mth : ∀ c C m j pins dd q, Γ.cl[c]? = some C → C.ms.lookup m = some j → Γ.fs[j]? = some pins → Γ.dd[j]? = some dd → ∃ k fa, Cls X.K (cA c) ∧ Meth X.K (cA c) m fa ∧ Dfl X cA k fa (cal j) pins (dd.drop q) ∧ Room k X.A
  mak : ∀ x c C pins dd q, Γ.gl.lookup x = some (.cls c) → Γ.cl[c]? = some C → Γ.fs[C.init]? = some pins → Γ.dd[C.init]? = some dd → ∃ k fa, Mk X.K (cA c) fa ∧ Dfl X cA k fa (cal (1000 + C.init)) pins (dd.drop q) ∧ Room (k + 1) X.A ∧ X.mg x = some (.ref (cA c))
theorem slotOf_get {x : Str} : ∀ {N : List Str} {i : Nat}, slotOf x N = some i → N[i]? = some x
  | [], i, h => by cases h
  | y :: ys, i, h => by
    simp only [slotOf] at h
    split at h
    · rename_i e
      cases h
      rw [beq_iff_eq.mp e]
      rfl
    · obtain ⟨j, hj, rfl⟩ := Option.map_eq_some_iff.mp h
      rw [List.getElem?_cons_succ]
      exact slotOf_get hj
theorem okName_of {x : Str} (h : okName x = true) : (x == ("__debug__" : Str)) = false ∧ (x == ("__classdict__" : Str)) = false := by
  unfold okName at h
  rw [Bool.and_eq_true] at h
  exact ⟨by simpa using h.1, by simpa using h.2⟩
section
variable {cal : Nat → List D → CR} {cA : Nat → Addr} {X : Cx} {W : Gx} {Γ : Cfg}
theorem Cok.vis (C : Cok cal cA X W Γ) {x : Str} (h : visB Γ.sc x = true) : Vis X.env.scope x := by
  unfold visB at h
  rw [C.sc]
  split at h
  · rename_i e; exact .inl e
  · rename_i e; exact .inr (.inl e)
  · rename_i e; exact .inr (.inr e)
  · cases h
theorem Cok.gl_ (C : Cok cal cA X W Γ) {x : Str} (h : glB Γ.sc x = true) : Gl X x := by
  unfold glB at h
  show X.env.scope.names.lookup x = _
  rw [C.sc]
  split at h
  · rename_i e; exact e
  · cases h
theorem Cok.name (C : Cok cal cA X W Γ) {x : Str} {i : Nat} {p : Pos} (h : slotV Γ x = some i) : SE X cA W (.Name x p) (nameE i) := by
  unfold slotV at h
  split at h
  · rename_i hc
    rw [Bool.and_eq_true] at hc
    have z := okName_of hc.2
    exact se_name (by rw [C.N]; exact slotOf_get h) (C.vis hc.1) z.1 z.2
  · cases h
theorem Cok.var (C : Cok cal cA X W Γ) {x : Str} {i : Nat} {p : Pos} (h : slotV Γ x = some i) : PE X (.Name x p) (tVar i) := by
  unfold slotV at h
  split at h
  · rename_i hc
    rw [Bool.and_eq_true] at hc
    have z := okName_of hc.2
    exact pe_var (by rw [C.N]; exact slotOf_get h) (C.vis hc.1) z.1 z.2
  · cases h
theorem Cok.loc (C : Cok cal cA X W Γ) {x : Str} {i : Nat} (h : slotL Γ x = some i) : X.N[i]? = some x ∧ Loc X.env.scope x ∧ (X.fn x = true ∨ X.env.scope.names.lookup x = some .local) ∧ W.pn i = none := by
  unfold slotL at h
  split at h
  · rename_i hl
    obtain ⟨j, hj, h⟩ := Option.bind_eq_some_iff.mp h
    have hi : j = i ∧ Γ.pz[i]? ≠ some true := by
      split at h
      · cases h
      · rename_i hne
        cases h
        exact ⟨rfl, hne⟩
    obtain ⟨rfl, hp⟩ := hi
    unfold locB at hl
    refine ⟨by rw [C.N]; exact slotOf_get hj, ?_, ?_, C.pins _ hp⟩
    · rw [C.sc]
      split at hl
      · rename_i e; exact .inl e
      · rename_i e; exact .inr e
      · cases hl
    · rw [C.sc]
      split at hl
      · rename_i e; exact .inr e
      · exact .inl ((C.lp hl).2 x)
      · cases hl
  · cases h
theorem Cok.names (C : Cok cal cA X W Γ) : ∀ {es : List Expr} {is : List Nat}, nmSlots Γ es = some is → NmOk X W es is
  | [], is, h => by cases h; exact .nil
  | e :: es, is, h => by
    cases e <;> simp only [nmSlots, reduceCtorEq] at h
    obtain ⟨i, hi, h⟩ := Option.bind_eq_some_iff.mp h
    obtain ⟨is', his, h⟩ := Option.bind_eq_some_iff.mp h
    cases h
    obtain ⟨h1, h2, h3, h4⟩ := C.loc hi
    exact .cons h1 h2 h3 h4 (C.names his)
theorem Cok.tgt (C : Cok cal cA X W Γ) {e : Expr} {t : (D → Sl → Option Sl) × List Nat} (h : semG Γ e = some t) : TgOk X cA W e t.1 t.2 := by
  cases e <;> simp only [semG, reduceCtorEq] at h
  · obtain ⟨i, hi, rfl⟩ := Option.map_eq_some_iff.mp h
    obtain ⟨h1, h2, h3, h4⟩ := C.loc hi
    exact tg_name (by rw [C.N]; exact C.nd) h1 h2 h3 h4
  · split at h
    case isFalse => cases h
    rename_i hc
    obtain ⟨is, his, rfl⟩ := Option.map_eq_some_iff.mp h
    exact tg_tup (C.calm hc) (by rw [C.N]; exact C.nd) (C.names his)
theorem Cok.isGl (C : Cok cal cA X W Γ) {x : Str} (h : isGl Γ x = true) (hb : x ∈ bltNames) : Gl X x ∧ X.mg x = none := by
  unfold NS.isGl at h
  rw [Bool.and_eq_true] at h
  exact ⟨C.gl_ h.1, C.blt x (by simpa using h.2) hb⟩
theorem Cok.blk (C : Cok cal cA X W Γ) {s : Shared} {H : Hp} {scope : Scope} {A : Addr} {cl : List (Str × Addr)} {fp : List Addr} {P : Hp} : Cok cal cA (X.blk s H scope (compEnvC scope cl A X.env) fp) (W.blk P) { Γ with sc := relS scope Γ.sc, lp := false, su := none } where
  N := C.N
  nd := C.nd
  sc := by
    show relS scope X.env.scope = _
    rw [C.sc]
  calm := C.calm
  glo := C.glo
  fns := C.fns
  blt := C.blt
  tab := fun x tb h => let ⟨t, h1, h2⟩ := C.tab x tb h; ⟨t, h1, ⟨h2.k⟩⟩
  tk := fun _ => takes0N
  pa := paC takes0N
  pins := C.pins
  lp := fun h => by cases h
  st := fun h => by cases h
  xcl := C.xcl
  xnm := C.xnm
  rm := C.rm
  su := fun i n x h => by cases h
  un := C.un
  dfs := fun x i pins dd q h1 h2 h3 => let ⟨k, fa, h4, h5, h6, h7⟩ := C.dfs x i pins dd q h1 h2 h3; ⟨k, fa, ⟨h4.ex, h4.ow⟩, h5, h6, h7⟩
  okc := C.okc
  mth := fun c D m j pins dd q h1 h2 h3 h4 => let ⟨k, fa, h5, h6, h7, h8⟩ := C.mth c D m j pins dd q h1 h2 h3 h4; ⟨k, fa, h5, h6, ⟨h7.ex, h7.ow⟩, h8⟩
  mak := fun x c D pins dd q h1 h2 h3 h4 => let ⟨k, fa, h5, h6, h7, h8⟩ := C.mak x c D pins dd q h1 h2 h3 h4; ⟨k, fa, h5, ⟨h6.ex, h6.ow⟩, h7, h8⟩
/-- .. in a suite -/
theorem Cok.blkH (C : Cok cal cA X W Γ) {q : Addr × Obj} {s : Shared} {H : Hp} {scope : Scope} {A : Addr} {cl : List (Str × Addr)} {fp : List Addr} {P : Hp} : Cok cal cA (NX.blkH X s H scope (compEnvC scope cl A X.env) fp q) (W.blk P) { Γ with sc := relS scope Γ.sc, lp := false, su := none } where
  N := C.N
  nd := C.nd
  sc := by
    show relS scope X.env.scope = _
    rw [C.sc]
  calm := C.calm
  glo := C.glo
  fns := C.fns
  blt := C.blt
  tab := fun x tb h => let ⟨t, h1, h2⟩ := C.tab x tb h; ⟨t, h1, ⟨h2.k⟩⟩
  tk := fun _ => takes0N
  pa := paC takes0N
  pins := C.pins
  lp := fun h => by cases h
  st := fun h => by cases h
  xcl := C.xcl
  xnm := C.xnm
  rm := C.rm
  su := fun i n x h => by cases h
  un := C.un
  dfs := fun x i pins dd q h1 h2 h3 => let ⟨k, fa, h4, h5, h6, h7⟩ := C.dfs x i pins dd q h1 h2 h3; ⟨k, fa, ⟨h4.ex, h4.ow⟩, h5, h6, h7⟩
  okc := C.okc
  mth := fun c D m j pins dd q h1 h2 h3 h4 => let ⟨k, fa, h5, h6, h7, h8⟩ := C.mth c D m j pins dd q h1 h2 h3 h4; ⟨k, fa, h5, h6, ⟨h7.ex, h7.ow⟩, h8⟩
  mak := fun x c D pins dd q h1 h2 h3 h4 => let ⟨k, fa, h5, h6, h7, h8⟩ := C.mak x c D pins dd q h1 h2 h3 h4; ⟨k, fa, h5, ⟨h6.ex, h6.ow⟩, h7, h8⟩
/-- .. whose element may raise -/
theorem Cok.blkX (C : Cok cal cA X W Γ) {s : Shared} {H : Hp} {scope : Scope} {A : Addr} {cl : List (Str × Addr)} {fp : List Addr} {P : Hp} {xe : Value → Shared → Prop} {w' : WX} (hp : ∀ σ', PassesAt (L2N.CX X.prog X.w) (NX.blkX X s H scope (compEnvC scope cl A X.env) fp xe) σ' (fun cls dx H' => w' cls dx σ' H')) : Cok cal cA (NX.blkX X s H scope (compEnvC scope cl A X.env) fp xe) ⟨w', P, W.pn⟩ { Γ with sc := relS scope Γ.sc, lp := false, su := none, tb := false } where
  N := C.N
  nd := C.nd
  sc := by
    show relS scope X.env.scope = _
    rw [C.sc]
  calm := C.calm
  glo := C.glo
  fns := C.fns
  blt := C.blt
  tab := fun x tb h => let ⟨t, h1, h2⟩ := C.tab x tb h; ⟨t, h1, ⟨h2.k⟩⟩
  tk := fun h => by cases h
  pa := hp
  pins := C.pins
  lp := fun h => by cases h
  st := fun h => by cases h
  xcl := C.xcl
  xnm := C.xnm
  rm := C.rm
  su := fun i n x h => by cases h
  un := C.un
  dfs := fun x i pins dd q h1 h2 h3 => let ⟨k, fa, h4, h5, h6, h7⟩ := C.dfs x i pins dd q h1 h2 h3; ⟨k, fa, ⟨h4.ex, h4.ow⟩, h5, h6, h7⟩
  okc := C.okc
  mth := fun c D m j pins dd q h1 h2 h3 h4 => let ⟨k, fa, h5, h6, h7, h8⟩ := C.mth c D m j pins dd q h1 h2 h3 h4; ⟨k, fa, h5, h6, ⟨h7.ex, h7.ow⟩, h8⟩
  mak := fun x c D pins dd q h1 h2 h3 h4 => let ⟨k, fa, h5, h6, h7, h8⟩ := C.mak x c D pins dd q h1 h2 h3 h4; ⟨k, fa, h5, ⟨h6.ex, h6.ow⟩, h7, h8⟩
theorem pg_hot {tg : Expr} {u : TG} {q : Addr × Obj} {s0 : Shared} {H0 : Hp} {scope : Scope} {ce : Env} {fp : List Addr} (h : PG (X.blk s0 H0 scope ce fp) tg u) : PG (NX.blkH X s0 H0 scope ce fp q) tg u := by
  refine ⟨fun pins s σ H x v Q I r w => ?_⟩
  have I0 : Inv (X.blk s0 H0 scope ce fp) (q :: pins) σ H s := NX.inv_re (pn' := []) I fun p hp => I.pin p hp
  exact thnF (h.run (q :: pins) s σ H x v Q I0 r w) fun a s1 ⟨σ1, H1, I1, q1⟩ => ⟨σ1, H1, NX.inv_re (pn' := [q]) (pins' := pins) I1 fun p hp => I1.pin p hp, q1⟩
theorem pg_wish {Y : Cx} {tg : Expr} {u : TG} {E : Value → Shared → Prop} (h : PG (Y.wish fun _ _ => False) tg u) : PG (Y.wish E) tg u := ⟨fun pins s σ H x v Q I r q => thnF (h.run pins s σ H x v Q (I.wish _) r q) fun a s1 ⟨σ1, H1, I1, q1⟩ => ⟨σ1, H1, I1.wish _, q1⟩⟩
theorem xcAt_ix : ∀ {xs : List Xc} {c : Nat} {e : Xc}, xcAt xs c = some e → e ∈ xs ∧ e.ix = c
  | [], c, e, h => by cases h
  | x :: xs, c, e, h => by
    simp only [xcAt] at h
    split at h
    · rename_i hb
      cases h
      exact ⟨by simp, Nat.eq_of_beq_eq_true hb⟩
    · obtain ⟨h1, h2⟩ := xcAt_ix h
      exact ⟨List.mem_cons_of_mem _ h1, h2⟩
theorem xcNm_nm : ∀ {xs : List Xc} {x : Str} {e : Xc}, xcNm xs x = some e → e ∈ xs ∧ e.nm = x
  | [], c, e, h => by cases h
  | x :: xs, c, e, h => by
    simp only [xcNm] at h
    split at h
    · rename_i hb
      cases h
      exact ⟨by simp, beq_iff_eq.mp hb⟩
    · obtain ⟨h1, h2⟩ := xcNm_nm h
      exact ⟨List.mem_cons_of_mem _ h1, h2⟩
/-- the body of a try -/
theorem Cok.tr (C : Cok cal cA X W Γ) (hs : Γ.su = none) {W' : WX} {pn : List (Addr × Obj)} {xe : Value → Shared → Prop} (tk : L2N.Takes (X.tr pn xe) W') (hp : PassesOwn (model X.prog X.w) X.A X.env xe) : Cok cal cA (X.tr pn xe) ⟨W', W.P, W.pn⟩ Γ where
  N := C.N
  nd := C.nd
  sc := C.sc
  calm := C.calm
  glo := C.glo
  fns := C.fns
  blt := C.blt
  tab := fun x tb h => let ⟨t, h1, h2⟩ := C.tab x tb h; ⟨t, h1, ⟨h2.k⟩⟩
  tk := fun _ => tk
  pa := paC tk
  pins := C.pins
  lp := fun h => ⟨hp, (C.lp h).2⟩
  st := C.st
  xcl := C.xcl
  xnm := C.xnm
  rm := C.rm
  su := fun i n x h => by rw [hs] at h; cases h
  un := C.un
  dfs := fun x i pins dd q h1 h2 h3 => let ⟨k, fa, h4, h5, h6, h7⟩ := C.dfs x i pins dd q h1 h2 h3; ⟨k, fa, ⟨h4.ex, h4.ow⟩, h5, h6, h7⟩
  okc := C.okc
  mth := fun c D m j pins dd q h1 h2 h3 h4 => let ⟨k, fa, h5, h6, h7, h8⟩ := C.mth c D m j pins dd q h1 h2 h3 h4; ⟨k, fa, h5, h6, ⟨h7.ex, h7.ow⟩, h8⟩
  mak := fun x c D pins dd q h1 h2 h3 h4 => let ⟨k, fa, h5, h6, h7, h8⟩ := C.mak x c D pins dd q h1 h2 h3 h4; ⟨k, fa, h5, ⟨h6.ex, h6.ow⟩, h7, h8⟩
theorem pzAt_ok {pz : List Bool} {i j : Nat} (h : (pzAt pz i)[j]? ≠ some true) : j ≠ i ∧ pz[j]? ≠ some true := by
  unfold pzAt at h
  have hl : i < (pz ++ List.replicate (i + 1 - pz.length) false).length := by rw [List.length_append, List.length_replicate]; omega
  have hj : j ≠ i := fun z => by
    subst z
    rw [List.getElem?_set_self hl] at h
    exact h rfl
  refine ⟨hj, fun z => h ?_⟩
  rw [List.getElem?_set_ne (Ne.symm hj), List.getElem?_append_left (List.getElem?_eq_some_iff.mp z).1]
  exact z
/-- the suite of an exception -/
theorem Cok.suite (C : Cok cal cA X W Γ) {i : Nat} {n : Str} {x : Xn} {a dd : Addr} {oe : Obj} {pn : List (Addr × Obj)} (hi : slotOf n Γ.N = some i) (hz : L2N.Zn (.ref (cA x.c)) (some dd) oe) (hf : ∃ vs, oe.data = .fields vs) (hst : X.stack = X.env :: X.outer ∧ X.env.frame = some X.env.locals) : Cok cal cA (X.suite a ((a, oe) :: pn)) (suG W i a dd (fsOf x)) (Γ.suit i n x) where
  N := C.N
  nd := C.nd
  sc := C.sc
  calm := fun h => by cases h
  glo := C.glo
  fns := fun x i pins h1 h2 => by cases h2
  blt := C.blt
  tab := fun x tb h => let ⟨t, h1, h2⟩ := C.tab x tb h; ⟨t, h1, ⟨h2.k⟩⟩
  tk := fun _ => takes0N
  pa := paC takes0N
  pins := fun j hj => by
    obtain ⟨h1, h2⟩ := pzAt_ok hj
    show (if j = i then some (V.ref a) else W.pn j) = none
    rw [if_neg h1]
    exact C.pins j h2
  lp := fun h => by cases h
  st := fun h => by cases h
  xcl := C.xcl
  xnm := C.xnm
  rm := fun h => by cases h
  su := fun i' n' x' h => by
    cases h
    exact ⟨X, a, dd, oe, pn, W, rfl, rfl, hz, hf, hi, hst⟩
  un := C.un
  dfs := fun x i pins dd q h1 h2 h3 => by cases h2
  okc := C.okc
  mth := fun c D m j pins dd q h1 h2 h3 h4 => by cases h3
  mak := fun x c D pins dd q h1 h2 h3 h4 => by cases h3
theorem Cok.suiteO (C : Cok cal cA X W Γ) {a : Addr} {oe : Obj} {pn : List (Addr × Obj)} : Cok cal cA (X.suite a ((a, oe) :: pn)) ⟨fun _ _ _ _ => False, W.P, W.pn⟩ Γ.suitO where
  N := C.N
  nd := C.nd
  sc := C.sc
  calm := fun h => by cases h
  glo := C.glo
  fns := fun x i pins h1 h2 => by cases h2
  blt := C.blt
  tab := fun x tb h => let ⟨t, h1, h2⟩ := C.tab x tb h; ⟨t, h1, ⟨h2.k⟩⟩
  tk := fun _ => takes0N
  pa := paC takes0N
  pins := C.pins
  lp := fun h => by cases h
  st := fun h => by cases h
  xcl := C.xcl
  xnm := C.xnm
  rm := fun h => by cases h
  su := fun i' n' x' h => by cases h
  un := C.un
  dfs := fun x i pins dd q h1 h2 h3 => by cases h2
  okc := C.okc
  mth := fun c D m j pins dd q h1 h2 h3 h4 => by cases h3
  mak := fun x c D pins dd q h1 h2 h3 h4 => by cases h3
theorem mtOf_ok (C : Cok cal cA X W Γ) {x : Str} (hx : x ∈ Γ.xn) : ∃ cv, clsV cv = true ∧ (X.mg x = some cv ∨ (X.mg x = none ∧ bootBuiltins x = some cv ∧ x ≠ "__name__")) ∧ ∀ c b, mtOf Γ.xs x c = some b → PySem.W.exmOne X.K (.ref (cA c)) cv = some b ∧ PySem.W.kitOne X.K (.ref (cA c)) cv = some b := by
  obtain ⟨cv, h1, h2, h3⟩ := C.xnm x hx
  refine ⟨cv, h1, h2, fun c b h => ?_⟩
  unfold mtOf at h
  obtain ⟨e, he, rfl⟩ := Option.map_eq_some_iff.mp h
  obtain ⟨hm, rfl⟩ := xcAt_ix he
  exact h3 e hm
theorem Cok.xk (C : Cok cal cA X W Γ) {c : Nat} {e : Xc} (h : xcAt Γ.xs c = some e) : XkC X.K (cA c) ∧ PySem.W.findIn X.K (.ref (cA c)) e.fl = some none := by
  obtain ⟨hm, rfl⟩ := xcAt_ix h
  exact ⟨(C.xcl e hm).1, (C.xcl e hm).2.1⟩
theorem mtOf_at {xs : List Xc} {x : Str} {c : Nat} (h : xcAt xs c = none) : mtOf xs x c = none := by
  unfold mtOf
  rw [h]
  rfl
theorem mtAny_at {xs : List Xc} {c : Nat} (h : xcAt xs c = none) : ∀ Cs : List Str, mtAny xs Cs c = none
  | [] => by
    unfold mtAny
    rw [h]
    rfl
  | x :: Cs => by
    unfold mtAny
    rw [mtOf_at h]
    rfl
theorem Cok.cls (C : Cok cal cA X W Γ) {x : Str} (h : xnB Γ x = true) : ∃ cv, clsV cv = true ∧ Names X x cv ∧ ∀ c b, mtOf Γ.xs x c = some b → PySem.W.exmOne X.K (.ref (cA c)) cv = some b ∧ PySem.W.kitOne X.K (.ref (cA c)) cv = some b := by
  unfold xnB at h
  rw [Bool.and_eq_true, Bool.and_eq_true] at h
  obtain ⟨h1, h2, h3⟩ := h
  obtain ⟨cv, e1, e2, e3⟩ := mtOf_ok C (x := x) (by simpa using h3)
  exact ⟨cv, e1, ⟨C.gl_ h1, (okName_of h2).1, e2⟩, e3⟩
theorem Cok.suAt (C : Cok cal cA X W Γ) {o : Expr} {f : Str} {g : Sl → R EV} {pos : Pos} (h : NS.suAt Γ o f = some g) : SE X cA W (.Attribute o f pos) g := by
  unfold NS.suAt at h
  split at h
  · rename_i i n x m p hsu
    split at h
    · rename_i hc
      cases h
      rw [Bool.and_eq_true, Bool.and_eq_true] at hc
      obtain ⟨c1, c2, c3⟩ := hc
      have c1 := beq_iff_eq.mp c1
      subst c1
      have hv := C.vis c2
      have hd := okName_of c3
      have hN := C.N
      obtain ⟨Y, a, dd, oe, pn, W0, e1, e2, hz, hf, hi, _⟩ := C.su i m x hsu
      cases hx : xcAt Γ.xs x.c with
      | none =>
        have e : hatE Γ.xs x f = fun _ => .no := by
          funext s
          unfold hatE
          rw [hx]
        rw [e]
        exact ⟨fun pn s σ H Q I h => by
          obtain ⟨F, fp, s, r, p⟩ := h
          exact p.elim⟩
      | some e =>
        obtain ⟨k1, k2⟩ := C.xk hx
        by_cases hfl : (e.fl == f) = true
        · have ef : hatE Γ.xs x f = xatE x f := by
            funext s
            unfold hatE
            rw [hx]
            exact if_pos hfl
          rw [ef, ← beq_iff_eq.mp hfl]
          subst e1 e2
          exact se_xat (X := Y) k1 k2 hz.zc hf (by show Y.N[i]? = some m; rw [show Y.N = Γ.N from hN]; exact slotOf_get hi) hv hd.1 hd.2
        · have ef : hatE Γ.xs x f = fun _ => .no := by
            funext s
            unfold hatE
            rw [hx]
            exact if_neg hfl
          rw [ef]
          exact ⟨fun pn s σ H Q I h => by
            obtain ⟨F, fp, s, r, p⟩ := h
            exact p.elim⟩
    · cases h
  · cases h
theorem se_isn {e : Expr} : SE X cA W e (isxE none) := ⟨fun pn s σ H Q I h => by
  obtain ⟨F, fp, s, r, p⟩ := h
  exact p.elim⟩
theorem Cok.suIs (C : Cok cal cA X W Γ) {o : Expr} {y : Str} {g : Sl → R EV} {p p2 pos : Pos} (h : NS.suIs Γ o y = some g) : SE X cA W (.Call (.Name "isinstance" p) [o, .Name y p2] [] pos) g := by
  unfold NS.suIs at h
  split at h
  · rename_i i n x m p hsu
    split at h
    · rename_i hc
      cases h
      rw [Bool.and_eq_true, Bool.and_eq_true, Bool.and_eq_true, Bool.and_eq_true] at hc
      obtain ⟨c1, c2, c3, c4, c5⟩ := hc
      have c1 := beq_iff_eq.mp c1
      subst c1
      have hv := C.vis c2
      have hd := okName_of c3
      have hN := C.N
      have hg := C.isGl c4 (by decide)
      obtain ⟨cv, e3, e4, e5⟩ := C.cls c5
      obtain ⟨Y, a, dd, oe, pn, W0, e1, e2, hz, hf, hi, _⟩ := C.su i m x hsu
      cases hx : xcAt Γ.xs x.c with
      | none =>
        rw [mtOf_at hx]
        exact se_isn
      | some e =>
        obtain ⟨k1, k2⟩ := C.xk hx
        subst e1 e2
        exact se_isx1 (X := Y) k1 hz.zc hf (by show Y.N[i]? = some m; rw [show Y.N = Γ.N from hN]; exact slotOf_get hi) hv hd.1 hd.2 hg.1 hg.2 e4 e3 fun b' hb => (e5 _ _ hb).2
    · cases h
  · cases h
theorem Cok.nms (C : Cok cal cA X W Γ) : ∀ {es : List Expr} {Cs : List Str}, clNames es = some Cs → Cs.all (xnB Γ) = true → ∃ cs, NmsC X es cs ∧ ∀ c b, mtAny Γ.xs Cs c = some b → PySem.W.kitAny X.K (.ref (cA c)) cs = some b
  | [], Cs, h, _ => by
    cases h
    refine ⟨[], .nil, fun c b h => ?_⟩
    unfold mtAny at h
    obtain ⟨e, he, rfl⟩ := Option.map_eq_some_iff.mp h
    rfl
  | e :: es, Cs, h, ha => by
    cases e <;> simp only [clNames, reduceCtorEq] at h
    rename_i x p
    obtain ⟨Cs', h1, rfl⟩ := Option.map_eq_some_iff.mp h
    rw [List.all_cons, Bool.and_eq_true] at ha
    obtain ⟨cv, e3, e4, e5⟩ := C.cls ha.1
    obtain ⟨cs, h2, h3⟩ := C.nms h1 ha.2
    refine ⟨cv :: cs, .cons e4 e3 h2, fun c b h => ?_⟩
    unfold mtAny at h
    obtain ⟨b1, hb1, h⟩ := Option.bind_eq_some_iff.mp h
    unfold PySem.W.kitAny
    rw [(e5 _ _ hb1).2]
    cases b1 with
    | true => exact h
    | false => exact h3 c b h
theorem clNames_len : ∀ {es : List Expr} {Cs : List Str}, clNames es = some Cs → es.length = Cs.length
  | [], Cs, h => by cases h; rfl
  | e :: es, Cs, h => by
    cases e <;> simp only [clNames, reduceCtorEq] at h
    obtain ⟨Cs', h1, rfl⟩ := Option.map_eq_some_iff.mp h
    rw [List.length_cons, List.length_cons, clNames_len h1]
theorem nms_suite {Y : Cx} {a : Addr} {pn : List (Addr × Obj)} {es : List Expr} {cs : List Value} (h : NmsC (Y.suite a pn) es cs) : NmsC Y es cs := by
  induction h with
  | nil => exact .nil
  | cons h1 h2 _ ih => exact .cons h1 h2 ih
theorem Cok.suIsT (C : Cok cal cA X W Γ) {o : Expr} {es : List Expr} {g : Sl → R EV} {p p2 pos : Pos} {k : Nat} (h : NS.suIsT Γ o es = some g) : SE X cA W (.Call (.Name "isinstance" p) [o, .Tuple es k p2] [] pos) g := by
  unfold NS.suIsT at h
  split at h
  · rename_i i n x m p hsu
    obtain ⟨Cs, hCs, h⟩ := Option.bind_eq_some_iff.mp h
    split at h
    · rename_i hc
      cases h
      rw [Bool.and_eq_true, Bool.and_eq_true, Bool.and_eq_true, Bool.and_eq_true, Bool.and_eq_true] at hc
      obtain ⟨c1, c2, c3, c4, c5, c6⟩ := hc
      have c1 := beq_iff_eq.mp c1
      subst c1
      have hv := C.vis c2
      have hd := okName_of c3
      have hN := C.N
      have hg := C.isGl c4 (by decide)
      obtain ⟨cs, e3, e4⟩ := C.nms hCs c5
      obtain ⟨Y, a, dd, oe, pn, W0, e1, e2, hz, hf, hi, _⟩ := C.su i m x hsu
      cases hx : xcAt Γ.xs x.c with
      | none =>
        rw [mtAny_at hx]
        exact se_isn
      | some e =>
        obtain ⟨k1, k2⟩ := C.xk hx
        subst e1 e2
        have e3' : NmsC Y es cs := nms_suite e3
        exact se_isxT (X := Y) k1 hz.zc hf (by show Y.N[i]? = some m; rw [show Y.N = Γ.N from hN]; exact slotOf_get hi) hv hd.1 hd.2 hg.1 hg.2 e3' (by have := clNames_len hCs; have := Nat.le_of_ble_eq_true c6; omega) fun b' hb => e4 _ _ hb
    · cases h
  · cases h
theorem mapO_cons {α β : Type} {f : α → Option β} {a : α} {as : List α} {bs : List β} (h : mapO f (a :: as) = some bs) : ∃ b r, f a = some b ∧ mapO f as = some r ∧ bs = b :: r := by
  simp only [mapO] at h
  obtain ⟨b, hb, h⟩ := Option.bind_eq_some_iff.mp h
  obtain ⟨r, hr, h⟩ := Option.bind_eq_some_iff.mp h
  cases h
  exact ⟨b, r, hb, hr, rfl⟩
end

/-- the meaning up to n is right -/
structure Snd (cal : Nat → List D → CR) (cA : Nat → Addr) (n : Nat) : Prop where
  e : ∀ X W Γ ex f, Cok cal cA X W Γ → semE cal n Γ ex = some f → SE X cA W ex f
  e0 : ∀ X W Γ ex f, Cok cal cA X W Γ → semE0 cal n Γ ex = some f → SE X cA W ex f
  m : ∀ X W Γ o m args f apos cpos, Cok cal cA X W Γ → (apos.endLine == cpos.line) = true → semM cal n Γ o m args = some f → SE X cA W (.Call (.Attribute o m apos) args [] cpos) f
  b : ∀ X W Γ x p args f pos, Cok cal cA X W Γ → glB Γ.sc x = true → Γ.gl.lookup x = none → args.all noStar = true → semB cal n Γ x args = some f → SE X cA W (.Call (.Name x p) args [] pos) f
  x : ∀ X W Γ es fs, Cok cal cA X W Γ → semX cal n Γ es = some fs → SA X cA W es (argsX fs)
  o : ∀ X W Γ ex f, Cok cal cA X W Γ → semO cal n Γ ex = some f → PO X ex (tP X cA W (partE f))
  t : ∀ X W Γ ex f, Cok cal cA X W Γ → semT cal n Γ ex = some f → ST X cA W ex f
  t0 : ∀ X W Γ ex f, Cok cal cA X W Γ → semT0 cal n Γ ex = some f → ST X cA W ex f
  w : ∀ X W Γ o es p f, Cok cal cA X W Γ → semW cal n Γ o es p = some f → SW X cA W (.BoolOp o es p) f
  i : ∀ X W Γ tg ex f, Cok cal cA X W Γ → semI cal n Γ tg ex = some f → SI X cA W tg ex f
  l : ∀ X W Γ elt tg iter ifs scope f, Cok cal cA X W Γ → semLc cal n Γ elt tg iter ifs scope = some f → ∃ (own : List (Str × Nat)) (gi : Sl → R (List D)) (tt : D → Sl → Option Sl) (is : List Nat) (tc : Sl → R Bool) (fe : Sl → R EV),
    (f = lcE gi tt (own.map (·.2)) tc fe ∨ ∃ (i : Nat) (x : Str) (p : Pos), iter = .Name x p ∧ SE X cA W (.Name x p) (nameE i) ∧ f = lcO i tt (own.map (·.2)) tc fe) ∧ SI X cA W tg iter gi ∧ BkOk X cA W scope tg ifs elt own tt is tc fe ∧ notSet iter = true
  d : ∀ X W Γ elt tg iter ifs scope f, Cok cal cA X W Γ → semLd cal n Γ elt tg iter ifs scope = some f → ∃ (own : List (Str × Nat)) (i : Nat) (x : Str) (p : Pos) (tt : D → Sl → Option Sl) (is : List Nat) (tc : Sl → R Bool) (fe : Sl → R EV),
    f = lcD i tt (own.map (·.2)) tc fe ∧ iter = .Name x p ∧ PE X (.Name x p) (tVar i) ∧ BkOk X cA W scope tg ifs elt own tt is tc fe
section
variable {cal : Nat → List D → CR} {cA : Nat → Addr}
theorem Snd.args {n : Nat} (S : Snd cal cA n) {X : Cx} {W : Gx} {Γ : Cfg} (C : Cok cal cA X W Γ) : ∀ {es : List Expr} {fs : List (Sl → R EV)}, mapO (semE cal n Γ) es = some fs → es.all noStar = true → SA X cA W es (argsE fs)
  | [], fs, h, _ => by cases h; exact sa_nil
  | e :: es, fs, h, hs => by
    obtain ⟨f, r, h1, h2, rfl⟩ := mapO_cons h
    rw [List.all_cons, Bool.and_eq_true] at hs
    exact sa_cons (S.e X W Γ e f C h1) (S.args C h2 hs.2) hs.1
def gTs : List Nat → TGs
  | [] => gNil
  | i :: is => gCons (gName i) (gTs is)
theorem NmOk.pg1 {X : Cx} {W : Gx} (hN : X.N.Nodup) {es : List Expr} {is : List Nat} (h : NmOk X W es is) : PGs X es (gTs is) := by
  induction h with
  | nil => exact pgs_nil
  | cons hi hx hf hp h ih => exact pgs_cons (pg_name hN hi hx hf) ih rfl
theorem putK {K : PySem.W.Frag} {F P H : Hp} {pn : Nat → Option V} {fp : Nat → List Addr} {s : Sl} {σ : L2.St} {d : D} {v : V} {i : Nat} (r : Rl K cA F P pn fp s σ H) (hi : i < s.length) (q : RepF K cA F d v) (ho : d.own = false) (hp : pn i = none) : Rl K cA F P pn (fset fp i []) (s.set i (some d)) (σ.set i (some v)) H :=
  r.put hi (Vl.frozen ho q) List.nodup_nil (fun j a z => nomatch z) (fun a z => nomatch z) (fun u z => by rw [hp] at z; cases z)
theorem gTs_ok {K : PySem.W.Frag} {F P H : Hp} {pn : Nat → Option V} : ∀ {is : List Nat} {fp : Nat → List Addr} {s s' : Sl} {σ : L2.St} {ds : List D} {vs : List V} {Q : L2.St → Hp → Prop}, (∀ i ∈ is, pn i = none) → Rl K cA F P pn fp s σ H → RepFs K cA F ds vs → (∀ d ∈ ds, d.own = false) → tgNs is ds s = some s' →
    (∀ σ' fp', Rl K cA F P pn fp' s' σ' H → (∀ vs, (∀ i ∈ is, i ∈ vs) → wipe σ' vs = wipe σ vs) → Q σ' H) → gTs is vs σ H Q
  | [], fp, s, s', σ, ds, vs, Q, hp, r, q, ho, e, hQ => by
    cases ds with
    | nil =>
      cases e
      cases (show vs = [] from q)
      exact ⟨rfl, hQ σ fp r fun _ _ => rfl⟩
    | cons d ds => cases e
  | i :: is, fp, s, s', σ, ds, vs, Q, hp, r, q, ho, e, hQ => by
    cases ds with
    | nil => cases e
    | cons d ds =>
      obtain ⟨v, vr, rfl, q1, q2⟩ := q
      obtain ⟨s1, e1, e2⟩ := Option.bind_eq_some_iff.mp e
      unfold tgN at e1
      split at e1
      · rename_i hb
        cases e1
        exact ⟨v, vr, rfl, gTs_ok (fun j hj => hp j (List.mem_cons_of_mem _ hj)) (putK r (Nat.blt_eq.mp hb) q1 (ho d (by simp)) (hp i (by simp))) q2 (fun d' hd => ho d' (List.mem_cons_of_mem _ hd)) e2 fun σ' fp' r' hw => hQ σ' fp' r' fun vs h => (hw vs fun i hi => h i (List.mem_cons_of_mem _ hi)).trans (wipe_set (h _ (by simp)))⟩
      · cases e1
theorem tgNs_len : ∀ {is : List Nat} {ds : List D} {s s' : Sl}, tgNs is ds s = some s' → ds.length = is.length
  | [], [], _, _, _ => rfl
  | [], _ :: _, _, _, e => by cases e
  | i :: is, [], _, _, e => by cases e
  | i :: is, d :: ds, s, s', e => by
    obtain ⟨s1, _, e2⟩ := Option.bind_eq_some_iff.mp e
    rw [List.length_cons, List.length_cons, tgNs_len e2]
theorem Cok.free (C : Cok cal cA X W Γ) {x : Str} {i : Nat} (h : slotL Γ x = some i) : W.pn i = none := (C.loc h).2.2.2
theorem slotL_free {Γ : Cfg} {x : Str} {i : Nat} (h : slotL Γ x = some i) : Γ.pz[i]? ≠ some true := by
  unfold slotL at h
  split at h
  · obtain ⟨j, hj, h⟩ := Option.bind_eq_some_iff.mp h
    split at h
    · cases h
    · rename_i hne
      cases h
      exact hne
  · cases h
theorem nmSlots_free {Γ : Cfg} : ∀ {es : List Expr} {is : List Nat}, nmSlots Γ es = some is → ∀ i ∈ is, Γ.pz[i]? ≠ some true
  | [], is, h => by cases h; intro i h; cases h
  | e :: es, is, h => by
    cases e <;> simp only [nmSlots, reduceCtorEq] at h
    obtain ⟨i, hi, h⟩ := Option.bind_eq_some_iff.mp h
    obtain ⟨is', his, h⟩ := Option.bind_eq_some_iff.mp h
    cases h
    intro j hj
    rcases List.mem_cons.mp hj with rfl | hj
    · exact slotL_free hi
    · exact nmSlots_free his j hj
theorem nmSlots_len {Γ : Cfg} : ∀ {es : List Expr} {is : List Nat}, nmSlots Γ es = some is → es.length = is.length
  | [], is, h => by cases h; rfl
  | e :: es, is, h => by
    cases e <;> simp only [nmSlots, reduceCtorEq] at h
    obtain ⟨i, hi, h⟩ := Option.bind_eq_some_iff.mp h
    obtain ⟨is', his, h⟩ := Option.bind_eq_some_iff.mp h
    cases h
    rw [List.length_cons, List.length_cons, nmSlots_len his]
theorem tgb_of {X : Cx} {W : Gx} {Γ : Cfg} (C : Cok cal cA X W Γ) {scope : Scope} {tg : Expr} {t : (D → Sl → Option Sl) × List Nat} (h : semG { Γ with sc := relS scope Γ.sc, lp := false, su := none } tg = some t) :
    ∃ u, TgB X cA W tg t.1 t.2 u ∧ ∀ (s : Shared) (H : Hp) (A : Addr) (cl : List (Str × Addr)) (fp : List Addr), PG (X.blk s H scope (compEnvC scope cl A X.env) fp) tg u := by
  cases tg <;> simp only [semG, reduceCtorEq] at h
  · obtain ⟨i, hi, rfl⟩ := Option.map_eq_some_iff.mp h
    refine ⟨gName i, ⟨fun P F fp s s' σ H d v Q r q ho e hQ => ?_⟩, fun s H A cl fp => ?_⟩
    · have hp : W.pn i = none := C.pins _ (slotL_free (Γ := { Γ with sc := relS scope Γ.sc, lp := false, su := none }) hi)
      change tgN i d s = some s' at e
      unfold tgN at e
      split at e
      · rename_i hb
        cases e
        exact hQ _ _ (putK r (Nat.blt_eq.mp hb) q ho hp) fun vs h => wipe_set (h i (List.mem_singleton.mpr rfl))
      · cases e
    · have C' : Cok cal cA (X.blk s H scope (compEnvC scope cl A X.env) fp) (W.blk (fun _ => none)) { Γ with sc := relS scope Γ.sc, lp := false, su := none } := C.blk
      obtain ⟨h1, h2, h3, _⟩ := C'.loc hi
      exact pg_name (by show X.N.Nodup; rw [C.N]; exact C.nd) h1 h2 h3
  · rename_i es k p
    split at h
    case isFalse => cases h
    rename_i hcm
    obtain ⟨is, his, rfl⟩ := Option.map_eq_some_iff.mp h
    refine ⟨gTup X.K es.length (gTs is), ⟨fun P F fp s s' σ H d v Q r q ho e hQ => ?_⟩, fun s H A cl fp => ?_⟩
    · have hp : ∀ i ∈ is, W.pn i = none := fun i hi => C.pins _ (nmSlots_free (Γ := { Γ with sc := relS scope Γ.sc, lp := false, su := none }) his i hi)
      change tgT' is d s = some s' at e
      unfold tgT' at e
      split at e
      · rename_i hf
        cases d <;> simp only [tgT, reduceCtorEq] at e
        rename_i xs
        obtain ⟨a, vs, rfl, m, n⟩ := q
        refine ⟨a, vs, rfl, SqT_mono m r.fz, ?_, gTs_ok hp r n (fun d hd => ?_) e hQ⟩
        · rw [← n.length, tgNs_len e, ← nmSlots_len his]
        · have := List.all_eq_true.mp hf d hd
          simpa using this
      · cases e
    · have C' : Cok cal cA (X.blk s H scope (compEnvC scope cl A X.env) fp) (W.blk (fun _ => none)) { Γ with sc := relS scope Γ.sc, lp := false, su := none } := C.blk
      have hn := C'.names his
      have z := hn.star (env := (X.blk s H scope (compEnvC scope cl A X.env) fp).env)
      exact pg_tup (C.calm hcm) (hn.pg1 (by show X.N.Nodup; rw [C.N]; exact C.nd)) z.2 z.1
end
end NS
namespace NS
open PySem PySem.Spec PyProof.Rows L2
variable {cal : Nat → List D → CR} {cA : Nat → Addr} {n : Nat}
theorem map1 {α β : Type} {o : Option α} {k : α → β} {b : β} (h : o.map k = some b) : ∃ a, o = some a ∧ b = k a := by
  obtain ⟨a, h1, h2⟩ := Option.map_eq_some_iff.mp h
  exact ⟨a, h1, h2.symm⟩
theorem bind1 {α β : Type} {o : Option α} {k : α → Option β} {b : β} (h : o.bind k = some b) : ∃ a, o = some a ∧ k a = some b := Option.bind_eq_some_iff.mp h
theorem ite1 {α : Type} {c : Bool} {x : Option α} {b : α} (h : (if c = true then x else none) = some b) : c = true ∧ x = some b := by
  split at h
  · exact ⟨‹_›, h⟩
  · cases h
theorem and1 {a b : Bool} (h : (a && b) = true) : a = true ∧ b = true := by rw [Bool.and_eq_true] at h; exact h
theorem ite1' {α : Type} {c : Bool} {x b : α} (h : (if c = true then some x else none) = some b) : c = true ∧ x = b := by
  cases c
  · cases h
  · exact ⟨rfl, Option.some.inj h⟩
theorem mtL_get {cal : Nat → List D → CR} {fs : List (List Bool)} {dd : List (List D)} {m : Str} {n : Nat} {cl : List Cl} {c : Nat} {q : MtE} (h : mtF (mtL cal fs dd m n 0 cl) c = some q) : ∃ C j pins ds r, cl[c]? = some C ∧ C.ms.lookup m = some j ∧ fs[j]? = some pins ∧ dd[j]? = some ds ∧ q = (cal j, pins, ds.drop r) := by
  have key : ∀ (cl : List Cl) (b : Nat), (mtL cal fs dd m n b cl).lookup c = some q → b ≤ c ∧ ∃ C j pins ds r, cl[c - b]? = some C ∧ C.ms.lookup m = some j ∧ fs[j]? = some pins ∧ dd[j]? = some ds ∧ q = (cal j, pins, ds.drop r) := by
    intro cl
    induction cl with
    | nil => intro b h; cases h
    | cons C cl ih =>
      intro b h
      rw [mtL] at h
      have rest : (mtL cal fs dd m n (b + 1) cl).lookup c = some q → b ≤ c ∧ ∃ D j pins ds r, (C :: cl)[c - b]? = some D ∧ D.ms.lookup m = some j ∧ fs[j]? = some pins ∧ dd[j]? = some ds ∧ q = (cal j, pins, ds.drop r) := by
        intro h
        obtain ⟨h1, D, j, pins, ds, r, h2, h3⟩ := ih (b + 1) h
        refine ⟨by omega, D, j, pins, ds, r, ?_, h3⟩
        rw [show c - b = (c - (b + 1)) + 1 by omega, List.getElem?_cons_succ]
        exact h2
      split at h
      · rename_i q' hq
        rw [List.lookup_cons] at h
        cases hb : c == b with
        | false => rw [hb] at h; exact rest h
        | true =>
          rw [hb] at h
          have e := beq_iff_eq.mp hb
          subst e
          cases h
          obtain ⟨j, e1, hq⟩ := bind1 hq
          obtain ⟨pins, e2, hq⟩ := bind1 hq
          obtain ⟨ds, e3, hq⟩ := bind1 hq
          obtain ⟨r, e4, rfl⟩ := map1 hq
          obtain ⟨_, rfl⟩ := ite1' e4
          exact ⟨Nat.le_refl _, C, j, pins, ds, _, by rw [Nat.sub_self]; rfl, e1, e2, e3, rfl⟩
      · exact rest h
  obtain ⟨_, h⟩ := key cl 0 h
  exact h
theorem lc_cm {cal : Nat → List D → CR} {n : Nat} {Γ : Cfg} {elt tg iter : Expr} {ifs : List Expr} {scope : Scope} {f : Sl → R EV} (h : semLc cal n Γ elt tg iter ifs scope = some f) : Γ.cm = true := by
  cases n with
  | zero => cases h
  | succ n =>
    unfold semLc at h
    dsimp only at h
    exact (and1 (ite1 h).1).1
theorem ld_cm {cal : Nat → List D → CR} {n : Nat} {Γ : Cfg} {elt tg iter : Expr} {ifs : List Expr} {scope : Scope} {f : Sl → R EV} (h : semLd cal n Γ elt tg iter ifs scope = some f) : Γ.cm = true := by
  cases n with
  | zero => cases h
  | succ n =>
    unfold semLd at h
    dsimp only at h
    exact (and1 (ite1 h).1).1
theorem yes_ok' {Y : Cx} {X : Cx} {W : Gx} (hK : Y.K = X.K) : PTs Y [] (tTB X cA W yesT) := by
  refine ⟨fun pins s σ H Q I h => pts_nil.run pins s σ H Q I ?_⟩
  obtain ⟨P, F, fp, s, r, p⟩ := h
  exact p H F fp (Same.refl F) r
theorem snd_e0 (S : Snd cal cA n) {X : Cx} {W : Gx} {Γ : Cfg} {ex : Expr} {f : Sl → R EV} (C : Cok cal cA X W Γ) (h : semE0 cal (n + 1) Γ ex = some f) : SE X cA W ex f := by
  have un := C.un
  unfold semE0 at h
  split at h
  all_goals first | (cases h; done) | (rename_i heq; cases heq) | (rename_i heq _ _ _ _; cases heq)
  · cases h; exact se_dnew
  · obtain ⟨r, hr, h⟩ := bind1 h
    obtain ⟨hc, h⟩ := ite1 h
    obtain ⟨h0, h15⟩ := and1 hc
    cases h
    exact se_dcon hr (by simpa using h0) h15
  · -- name
    split at h
    · obtain ⟨i, hi, rfl⟩ := map1 h
      exact C.name hi
    · obtain ⟨hc, h⟩ := ite1 h
      obtain ⟨h1, h2⟩ := and1 hc
      split at h
      · rename_i d hd
        cases h
        obtain ⟨v, u, hm, rv, ho, q⟩ := C.glo _ d hd
        exact se_const (pe_glob (C.gl_ h1) hm rv (okName_of h2).1) ho fun F => RepF.mono (fun a o z => by cases z) _ _ q
      · cases h
  · cases h; exact se_int
  · cases h; exact se_bl
  · cases h; exact se_non
  · cases h; exact se_str
  · split at h
    · rename_i hc
      obtain ⟨fs, hf, rfl⟩ := map1 h
      exact se_tup (sv_of (S.args C hf hc))
    · obtain ⟨fs, hf, rfl⟩ := map1 h
      exact se_tup (sv_ofX (S.x _ _ _ _ _ C hf))
  · split at h
    · rename_i hc
      obtain ⟨fs, hf, rfl⟩ := map1 h
      exact se_lst (sv_of (S.args C hf hc))
    · obtain ⟨fs, hf, rfl⟩ := map1 h
      exact se_lst (sv_ofX (S.x _ _ _ _ _ C hf))
  · obtain ⟨f1, h1, h⟩ := bind1 h
    obtain ⟨f2, h2, h⟩ := bind1 h
    cases h
    exact se_bin (S.e _ _ _ _ _ C h1) (S.e _ _ _ _ _ C h2)
  · obtain ⟨f1, h1, h⟩ := bind1 h
    cases h
    exact se_neg (S.e _ _ _ _ _ C h1)
  · obtain ⟨f1, h1, h⟩ := bind1 h
    cases h
    exact se_not (S.e _ _ _ _ _ C h1)
  · exact pe_one (S.e _ _ _ _ _ C h)
  · obtain ⟨f1, h1, h⟩ := bind1 h
    obtain ⟨f2, h2, h⟩ := bind1 h
    cases h
    exact se_and (S.e _ _ _ _ _ C h1) (S.e _ _ _ _ _ C h2)
  · obtain ⟨f1, h1, h⟩ := bind1 h
    obtain ⟨f2, h2, h⟩ := bind1 h
    cases h
    exact se_or (S.e _ _ _ _ _ C h1) (S.e _ _ _ _ _ C h2)
  · obtain ⟨hc, h⟩ := ite1 h
    obtain ⟨f1, h1, h⟩ := bind1 h
    obtain ⟨f2, h2, h⟩ := bind1 h
    cases h
    exact se_cmp un (S.e _ _ _ _ _ C h1) (S.e _ _ _ _ _ C h2) hc
  · obtain ⟨hc, h⟩ := ite1 h
    obtain ⟨f1, h1, h⟩ := bind1 h
    obtain ⟨f2, h2, h⟩ := bind1 h
    obtain ⟨f3, h3, h⟩ := bind1 h
    cases h
    exact se_chain un (S.e _ _ _ _ _ C h1) (S.e _ _ _ _ _ C h2) (S.e _ _ _ _ _ C h3) hc
  · obtain ⟨f1, h1, h⟩ := bind1 h
    obtain ⟨f2, h2, h⟩ := bind1 h
    obtain ⟨f3, h3, h⟩ := bind1 h
    cases h
    exact se_if (S.t _ _ _ _ _ C h1) (S.e _ _ _ _ _ C h2) (S.e _ _ _ _ _ C h3)
  · obtain ⟨f1, h1, rfl⟩ := map1 h
    exact se_rev (S.e _ _ _ _ _ C h1)
  · obtain ⟨f1, h1, h⟩ := bind1 h
    obtain ⟨f2, h2, h⟩ := bind1 h
    obtain ⟨f3, h3, h⟩ := bind1 h
    cases h
    exact se_sl (S.e _ _ _ _ _ C h1) (S.o _ _ _ _ _ C h2) (S.o _ _ _ _ _ C h3)
  · obtain ⟨hc, h⟩ := ite1 h
    obtain ⟨f1, h1, h⟩ := bind1 h
    obtain ⟨f2, h2, h⟩ := bind1 h
    cases h
    exact se_ix un (S.e _ _ _ _ _ C h1) (S.e _ _ _ _ _ C h2) hc
  · split at h
    · -- in a suite
      rename_i hsu
      split at h
      · rename_i x p2 a pos2
        dsimp only at h
        obtain ⟨hc, h⟩ := ite1 h
        obtain ⟨hc1, hc2⟩ := and1 hc
        obtain ⟨hx, hc1⟩ := and1 hc1
        obtain ⟨hgl, hns⟩ := and1 hc1
        obtain ⟨hblk, hfree⟩ := and1 hc2
        obtain ⟨fa, h1, h⟩ := bind1 h
        obtain ⟨t, h2, h⟩ := bind1 h
        obtain ⟨fe, h4, h⟩ := bind1 h
        obtain ⟨hsub, h⟩ := ite1 h
        cases h
        have hx := beq_iff_eq.mp hx
        subst hx
        obtain ⟨q3, hq3⟩ := Option.isSome_iff_exists.mp hsu
        obtain ⟨si, sn, sx⟩ := q3
        obtain ⟨g1, g2⟩ := C.isGl hgl (by decide)
        have C0 := C
        obtain ⟨Y, a', dd, oe, pn, W0, e1, e2, hz, hf, hi, hst, hfr⟩ := C.su si sn sx hq3
        have hot := NX.hot_suite (X := Y) (a := a') (pn := pn) hz hf
        rw [← e1] at hot
        refine se_lcH (is := t.2) (p := (a', oe)) hot.1 hot.2 (by rw [e1]; exact hst) (by rw [e1]; exact hfr) (by rw [C.N]; exact C.nd) (sih_rng1 g1 g2 (S.e _ _ _ _ _ C h1) hns) ⟨?_, ?_, ?_, ?_, ?_, ?_⟩ rfl
        · rw [C.N, C.sc]
          exact blkOk_by hblk
        · intro i hi
          obtain ⟨q, hq, rfl⟩ := List.mem_map.mp hi
          have z := List.all_eq_true.mp hfree q hq
          refine C.pins _ fun e => ?_
          unfold freeP at z
          rw [e] at z
          cases z
        · intro i hi
          have z := List.all_eq_true.mp hsub i hi
          simpa using z
        · obtain ⟨u, k1, k2⟩ := tgb_of C h2
          exact ⟨u, k1, fun s H A cl fp => pg_hot (k2 s H A cl fp)⟩
        · intro s H A cl fp
          exact yes_ok' rfl
        · intro s H A cl fp
          exact peB rfl fun P => S.e _ _ _ _ _ C.blkH h4
      · cases h
    split at h
    · -- the element may raise
      rename_i hrz
      obtain ⟨hrz, hc⟩ := and1 hrz
      obtain ⟨hifs, hwk⟩ := and1 hc
      dsimp only at h
      obtain ⟨hc, h⟩ := ite1 h
      obtain ⟨hcm, hc⟩ := and1 hc
      obtain ⟨hcm, hlt⟩ := and1 hcm
      obtain ⟨hlp, htb⟩ := and1 hlt
      obtain ⟨hblk, hc⟩ := and1 hc
      obtain ⟨hset, hfree⟩ := and1 hc
      obtain ⟨gi, h1, h⟩ := bind1 h
      obtain ⟨t, h2, h⟩ := bind1 h
      obtain ⟨fe, h4, h⟩ := bind1 h
      obtain ⟨hsub, h⟩ := ite1 h
      cases h
      have hifs := List.isEmpty_iff.mp hifs
      subst hifs
      obtain ⟨s1, s2⟩ := C.st hlp
      refine se_lcX (is := t.2) (C.tk htb) s1 s2 (C.calm hcm) (by rw [C.N]; exact C.nd) (S.i _ _ _ _ _ _ C h1) ⟨?_, ?_, ?_, ?_, ?_⟩ hset
      · rw [C.N, C.sc]
        exact blkOk_by hblk
      · intro i hi
        obtain ⟨q, hq, rfl⟩ := List.mem_map.mp hi
        have z := List.all_eq_true.mp hfree q hq
        refine C.pins _ fun e => ?_
        unfold freeP at z
        rw [e] at z
        cases z
      · intro i hi
        have z := List.all_eq_true.mp hsub i hi
        simpa using z
      · obtain ⟨u, k1, k2⟩ := tgb_of C h2
        exact ⟨u, k1, fun s H A cl fp xe => pg_wish (k2 s H A cl fp)⟩
      · intro σ0 s H A cl fp xe hp P
        exact S.e _ _ _ _ _ (C.blkX hp) h4
    split at h
    · have hcm := ld_cm h
      obtain ⟨own, i, x, p, tt, is, tc, fe, rfl, rfl, hx, hb⟩ := S.d _ _ _ _ _ _ _ _ _ C h
      exact se_lcD (C.calm hcm) (by rw [C.N]; exact C.nd) hx hb
    have hcm := lc_cm h
    obtain ⟨own, gi, tt, is, tc, fe, hf, hi, hb, hs⟩ := S.l _ _ _ _ _ _ _ _ _ C h
    rcases hf with rfl | ⟨i, x, p, rfl, hx, rfl⟩
    · exact se_lc (C.calm hcm) (by rw [C.N]; exact C.nd) hi hb hs
    · exact se_lcO (C.calm hcm) (by rw [C.N]; exact C.nd) hx hb
  · -- calls
    rename_i x p args pos
    obtain ⟨hc, h⟩ := ite1 h
    obtain ⟨hc, hs⟩ := and1 hc
    obtain ⟨hg, hok⟩ := and1 hc
    split at h
    · rename_i i hl
      split at h
      · rename_i a as pins hpi _
        split at h
        · obtain ⟨dd, hdd, h⟩ := bind1 h
          obtain ⟨r, hr0, h⟩ := bind1 h
          obtain ⟨fs, hf, rfl⟩ := map1 h
          obtain ⟨_, rfl⟩ := ite1' hr0
          obtain ⟨k, fa, Dk, hr, hm, hk⟩ := C.dfs _ _ _ _ _ hl hpi hdd
          exact se_callD Dk hr (C.gl_ hg) hm hk C.pa (S.args C hf hs) (okName_of hok).1 hs
        obtain ⟨fs, hf, rfl⟩ := map1 h
        obtain ⟨k, fa, fd, ps, Fk, hr, hm, hk, hb⟩ := C.fns _ _ _ hl hpi
        exact se_call Fk hr (C.gl_ hg) hm hk hb C.pa (S.args C hf hs) (okName_of hok).1 hs
      · rename_i pins hpi _
        cases h
        obtain ⟨k, fa, fd, ps, Fk, hr, hm, hk, hb⟩ := C.fns _ _ _ hl hpi
        exact se_call0 Fk hr (C.gl_ hg) hm hk hb C.pa (okName_of hok).1
      · cases h
    · cases h
    · cases h
    · rename_i c hl
      obtain ⟨D, hD, h⟩ := bind1 h
      obtain ⟨pins, hpi, h⟩ := bind1 h
      obtain ⟨dd, hdd, h⟩ := bind1 h
      split at h
      · rename_i pins' _
        obtain ⟨r, hr0, h⟩ := bind1 h
        obtain ⟨fs, hf, rfl⟩ := map1 h
        obtain ⟨_, rfl⟩ := ite1' hr0
        cases args with
        | nil =>
          cases hf
          obtain ⟨k, fa, hM, Dk, hr, hm⟩ := C.mak _ _ _ _ _ _ hl hD hpi hdd
          exact se_make0 hM Dk hr (C.gl_ hg) hm C.pa (okName_of hok).1
        | cons a as =>
          obtain ⟨k, fa, hM, Dk, hr, hm⟩ := C.mak _ _ _ _ _ _ hl hD hpi hdd
          exact se_make hM Dk hr (C.gl_ hg) hm C.pa (S.args C hf hs) (okName_of hok).1 hs
      · cases h
    · rename_i hl
      split at h
      · rename_i y p2 a pos2 _
        split at h
        · rename_i hc
          obtain ⟨hx, hc⟩ := and1 hc
          obtain ⟨hy, hc⟩ := and1 hc
          obtain ⟨hyg, hna⟩ := and1 hc
          obtain ⟨hna, hcm⟩ := and1 hna
          obtain ⟨f1, h1, rfl⟩ := map1 h
          cases (beq_iff_eq.mp hx)
          cases (beq_iff_eq.mp hy)
          have g1 := C.isGl (x := "list") (by
            unfold NS.isGl
            rw [hg, hl]
            rfl) (by decide)
          have g2 := C.isGl hyg (by decide)
          exact se_lrng (C.calm hcm) g1.1 g1.2 g2.1 g2.2 (S.e _ _ _ _ _ C h1) hna
        · exact S.b _ _ _ _ _ _ _ _ C hg hl hs h
      · rename_i y p2 a b pos2 _
        split at h
        · rename_i hc
          obtain ⟨hx, hc⟩ := and1 hc
          obtain ⟨hy, hc⟩ := and1 hc
          obtain ⟨hyg, hna⟩ := and1 hc
          obtain ⟨hna, hnb⟩ := and1 hna
          obtain ⟨hnb, hcm⟩ := and1 hnb
          obtain ⟨f1, h1, h⟩ := bind1 h
          obtain ⟨f2, h2, rfl⟩ := map1 h
          cases (beq_iff_eq.mp hx)
          cases (beq_iff_eq.mp hy)
          have g1 := C.isGl (x := "list") (by
            unfold NS.isGl
            rw [hg, hl]
            rfl) (by decide)
          have g2 := C.isGl hyg (by decide)
          exact se_lzip (C.calm hcm) g1.1 g1.2 g2.1 g2.2 (S.e _ _ _ _ _ C h1) (S.e _ _ _ _ _ C h2) hna hnb
        · exact S.b _ _ _ _ _ _ _ _ C hg hl hs h
      · rename_i a y py _
        split at h
        · rename_i hx
          split at h
          · rename_i t ht
            obtain ⟨hy, h⟩ := ite1 h
            obtain ⟨f1, h1, rfl⟩ := map1 h
            cases (beq_iff_eq.mp hx)
            have e1 : y = (t.s : Str) := by
              unfold TN.of at ht
              have z := List.find?_some ht
              exact (beq_iff_eq.mp z).symm
            subst e1
            have g1 := C.isGl (x := "isinstance") (by
              unfold NS.isGl
              rw [hg, hl]
              rfl) (by decide)
            have g2 := C.isGl hy (by cases t <;> decide)
            exact se_isi g1.1 g1.2 g2.1 g2.2 (S.e _ _ _ _ _ C h1) (and1 hs).1
          · have z := fun p p2 pos => C.suIs (p := p) (p2 := p2) (pos := pos) h
            cases (beq_iff_eq.mp hx)
            exact z _ _ _
        · exact S.b _ _ _ _ _ _ _ _ C hg hl hs h
      · split at h
        · rename_i hx
          have z := fun p p2 pos k => C.suIsT (p := p) (p2 := p2) (pos := pos) (k := k) h
          cases (beq_iff_eq.mp hx)
          exact z _ _ _ _
        · exact S.b _ _ _ _ _ _ _ _ C hg hl hs h
      · exact S.b _ _ _ _ _ _ _ _ C hg hl hs h
  · -- methods
    rename_i o m apos args cpos
    obtain ⟨hline, h⟩ := ite1 h
    split at h
    · split at h
      · rename_i hc
        obtain ⟨hnc, hc⟩ := and1 hc
        obtain ⟨hs, hn⟩ := and1 hc
        obtain ⟨f1, h1, h⟩ := bind1 h
        obtain ⟨fs, hf, rfl⟩ := map1 h
        refine se_meth (S.e _ _ _ _ _ C h1) (fun c q hq => ?_) C.pa (S.args C hf hs) hs (fun e0 => ?_) (meth_eval hnc hline hs (Nat.le_of_ble_eq_true hn))
        · obtain ⟨D, j, pins, dd, r, e1, e2, e3, e4, rfl⟩ := mtL_get hq
          exact C.mth _ _ _ _ _ _ _ e1 e2 e3 e4
        · subst e0
          cases hf
          rfl
      · split at h
        · obtain ⟨hb, h⟩ := ite1 h
          obtain ⟨f1, h1, rfl⟩ := map1 h
          refine se_methN (S.e _ _ _ _ _ C h1) (fun c q hq => ?_) C.pa (meth_evalN hb hline)
          obtain ⟨D, j, pins, dd, r, e1, e2, e3, e4, rfl⟩ := mtL_get hq
          exact C.mth _ _ _ _ _ _ _ e1 e2 e3 e4
        · cases h
    split at h
    · split at h
      · rename_i hc
        obtain ⟨hs, hc⟩ := and1 hc
        obtain ⟨hm, hnc⟩ := and1 hc
        obtain ⟨hnc, hcm⟩ := and1 hnc
        obtain ⟨f1, h1, h⟩ := bind1 h
        obtain ⟨f2, h2, rfl⟩ := map1 h
        cases (beq_iff_eq.mp hm)
        exact se_idx (C.calm (and1 hcm).1) (C.tk (and1 hcm).2) (S.e _ _ _ _ _ C h1) (S.e _ _ _ _ _ C h2) hs hnc hline
      split at h
      · rename_i hc
        obtain ⟨hs, hc⟩ := and1 hc
        obtain ⟨hm, hnc⟩ := and1 hc
        obtain ⟨f1, h1, h⟩ := bind1 h
        obtain ⟨f2, h2, rfl⟩ := map1 h
        cases (beq_iff_eq.mp hm)
        exact se_split (S.e _ _ _ _ _ C h1) (S.e _ _ _ _ _ C h2) hs hnc hline
      split at h
      · rename_i hc
        obtain ⟨hs, hc⟩ := and1 hc
        obtain ⟨hm, hnc⟩ := and1 hc
        obtain ⟨f1, h1, h⟩ := bind1 h
        obtain ⟨f2, h2, rfl⟩ := map1 h
        cases (beq_iff_eq.mp hm)
        exact se_join (S.e _ _ _ _ _ C h1) (S.e _ _ _ _ _ C h2) hs hnc hline
      · exact S.m _ _ _ _ _ _ _ _ _ C hline h
    · split at h
      · rename_i hc
        obtain ⟨hm, hnc⟩ := and1 hc
        obtain ⟨f1, h1, rfl⟩ := map1 h
        cases (beq_iff_eq.mp hm)
        exact se_upper (S.e _ _ _ _ _ C h1) hnc hline
      · exact S.m _ _ _ _ _ _ _ _ _ C hline h
    · exact S.m _ _ _ _ _ _ _ _ _ C hline h
  · -- fields
    split at h
    · rename_i g hg
      cases h
      exact C.suAt hg
    obtain ⟨hnc, h⟩ := ite1 h
    obtain ⟨f1, h1, rfl⟩ := map1 h
    exact se_attr C.okc (S.e _ _ _ _ _ C h1) (attrBase_eq hnc)
theorem snd_e (S : Snd cal cA n) {X : Cx} {W : Gx} {Γ : Cfg} {ex : Expr} {f : Sl → R EV} (C : Cok cal cA X W Γ) (h : semE cal (n + 1) Γ ex = some f) : SE X cA W ex f := by
  unfold semE at h
  cases h
  split
  · rename_i f hf
    exact S.e0 _ _ _ _ _ C hf
  · exact se_no
theorem snd_m (S : Snd cal cA n) {X : Cx} {W : Gx} {Γ : Cfg} {o : Expr} {m : Str} {args : List Expr} {f : Sl → R EV} {apos cpos : Pos} (C : Cok cal cA X W Γ) (hline : (apos.endLine == cpos.line) = true) (h : semM cal (n + 1) Γ o m args = some f) : SE X cA W (.Call (.Attribute o m apos) args [] cpos) f := by
  have un := C.un
  unfold semM at h
  split at h
  all_goals first | (cases h; done) | (have hq := ‹n + 1 = Nat.succ _›; cases hq)
  rename_i x px m args
  split at h
  · rename_i i hi
    split at h
    · obtain ⟨hm, h⟩ := ite1 h
      cases h
      cases (beq_iff_eq.mp hm)
      exact se_pop (C.name hi) hline
    · obtain ⟨hs, h⟩ := ite1 h
      obtain ⟨f1, h1, h⟩ := bind1 h
      split at h
      · rename_i hm
        cases h
        cases (beq_iff_eq.mp hm)
        exact se_app (C.name hi) (S.e _ _ _ _ _ C h1) hs hline
      · split at h
        · rename_i hm
          cases h
          cases (beq_iff_eq.mp hm)
          exact se_ext (C.name hi) (S.e _ _ _ _ _ C h1) hs hline
        · obtain ⟨hm, h⟩ := ite1 h
          cases h
          cases (beq_iff_eq.mp hm)
          exact se_dget1 (by omega) (C.var hi) (S.e _ _ _ _ _ C h1) hs hline
    · obtain ⟨hc, h⟩ := ite1 h
      obtain ⟨hs, hc⟩ := and1 hc
      obtain ⟨hs2, hm⟩ := and1 hc
      obtain ⟨f1, h1, h⟩ := bind1 h
      obtain ⟨f2, h2, rfl⟩ := map1 h
      cases (beq_iff_eq.mp hm)
      exact se_dget2 (by omega) (C.var hi) (S.e _ _ _ _ _ C h1) (S.e _ _ _ _ _ C h2) hs hs2 hline
    · cases h
  · obtain ⟨hc, h⟩ := ite1 h
    obtain ⟨hg, hok⟩ := and1 hc
    split at h
    · rename_i tb a b hl _
      obtain ⟨hc, h⟩ := ite1 h
      obtain ⟨hs, hc⟩ := and1 hc
      obtain ⟨hs2, hm⟩ := and1 hc
      obtain ⟨f1, h1, h⟩ := bind1 h
      obtain ⟨f2, h2, rfl⟩ := map1 h
      cases (beq_iff_eq.mp hm)
      obtain ⟨t, ht, T⟩ := C.tab _ _ hl
      exact se_tget (C.gl_ hg) ht (okName_of hok).1 T (S.e _ _ _ _ _ C h1) (S.e _ _ _ _ _ C h2) hs hs2 hline
    · cases h
theorem snd_b (S : Snd cal cA n) {X : Cx} {W : Gx} {Γ : Cfg} {x : Str} {p pos : Pos} {args : List Expr} {f : Sl → R EV} (C : Cok cal cA X W Γ) (hg : glB Γ.sc x = true) (hl : Γ.gl.lookup x = none) (hs : args.all noStar = true) (h : semB cal (n + 1) Γ x args = some f) : SE X cA W (.Call (.Name x p) args [] pos) f := by
  unfold semB at h
  have hcm := (ite1 h).1
  replace h := (ite1 h).2
  split at h
  · rename_i a as b hb
    obtain ⟨fs, hf, rfl⟩ := map1 h
    have e := BI.of_name hb
    subst e
    exact se_bi (C.calm hcm) (C.gl_ hg) (C.blt _ hl (by cases b <;> decide)) (S.args C hf hs) hs
  · split at h
    · rename_i hx
      obtain ⟨fs, hf, rfl⟩ := map1 h
      cases (beq_iff_eq.mp hx)
      exact se_dict (C.calm hcm) (C.gl_ hg) (C.blt _ hl (by decide)) (S.args C hf hs) hs
    · obtain ⟨hx, h⟩ := ite1 h
      obtain ⟨fs, hf, rfl⟩ := map1 h
      cases (beq_iff_eq.mp hx)
      exact se_sorted (C.gl_ hg) (C.blt _ hl (by decide)) (S.args C hf hs) hs
  · cases h
theorem snd_x (S : Snd cal cA n) {X : Cx} {W : Gx} {Γ : Cfg} {es : List Expr} {fs : List (Bool × (Sl → R EV))} (C : Cok cal cA X W Γ) (h : semX cal (n + 1) Γ es = some fs) : SA X cA W es (argsX fs) := by
  unfold semX at h
  split at h
  all_goals first | (cases h; done) | (have hq := ‹n + 1 = Nat.succ _›; cases hq)
  · cases h; exact sa_nilX
  · obtain ⟨f1, h1, h⟩ := bind1 h
    obtain ⟨f2, h2, h⟩ := bind1 h
    cases h
    exact sa_star (S.e _ _ _ _ _ C h1) (S.x _ _ _ _ _ C h2)
  · obtain ⟨hc, h⟩ := ite1 h
    obtain ⟨f1, h1, h⟩ := bind1 h
    obtain ⟨f2, h2, h⟩ := bind1 h
    cases h
    exact sa_plain (S.e _ _ _ _ _ C h1) (S.x _ _ _ _ _ C h2) hc
theorem snd_o (S : Snd cal cA n) {X : Cx} {W : Gx} {Γ : Cfg} {ex : Option Expr} {f : Option (Sl → R EV)} (C : Cok cal cA X W Γ) (h : semO cal (n + 1) Γ ex = some f) : PO X ex (tP X cA W (partE f)) := by
  unfold semO at h
  split at h
  all_goals first | (cases h; done) | (have hq := ‹n + 1 = Nat.succ _›; cases hq)
  · cases h; exact sp_none
  · obtain ⟨f1, h1, rfl⟩ := map1 h
    exact sp_some (S.e _ _ _ _ _ C h1)
theorem snd_t0 (S : Snd cal cA n) {X : Cx} {W : Gx} {Γ : Cfg} {ex : Expr} {f : Sl → R Bool} (C : Cok cal cA X W Γ) (h : semT0 cal (n + 1) Γ ex = some f) : ST X cA W ex f := by
  have un := C.un
  unfold semT0 at h
  split at h
  all_goals first | (cases h; done) | (have hq := ‹n + 1 = Nat.succ _›; cases hq)
  · split at h
    · rename_i tb htb
      unfold tabOf at htb
      obtain ⟨hc, htb⟩ := ite1 htb
      obtain ⟨hg, hok⟩ := and1 hc
      split at htb
      · rename_i tb' hl
        cases htb
        obtain ⟨f1, h1, rfl⟩ := map1 h
        obtain ⟨t, ht, T⟩ := C.tab _ _ hl
        exact st_tin (C.gl_ hg) ht (okName_of hok).1 T (S.e _ _ _ _ _ C h1)
      · cases htb
    · obtain ⟨f1, h1, h⟩ := bind1 h
      obtain ⟨f2, h2, h⟩ := bind1 h
      cases h
      exact st_cmp un (S.e _ _ _ _ _ C h1) (S.e _ _ _ _ _ C h2) rfl
  · obtain ⟨f1, h1, rfl⟩ := map1 h
    exact st_not (S.t _ _ _ _ _ C h1)
  · exact (S.w _ _ _ _ _ _ _ C h).pt
  · obtain ⟨hc, h⟩ := ite1 h
    obtain ⟨f1, h1, h⟩ := bind1 h
    obtain ⟨f2, h2, h⟩ := bind1 h
    cases h
    exact st_cmp un (S.e _ _ _ _ _ C h1) (S.e _ _ _ _ _ C h2) hc
  · obtain ⟨hc, h⟩ := ite1 h
    obtain ⟨f1, h1, h⟩ := bind1 h
    obtain ⟨f2, h2, h⟩ := bind1 h
    obtain ⟨f3, h3, h⟩ := bind1 h
    cases h
    exact st_chain un (S.e _ _ _ _ _ C h1) (S.e _ _ _ _ _ C h2) (S.e _ _ _ _ _ C h3) hc
  · obtain ⟨hc, h⟩ := ite1 h
    obtain ⟨f1, h1, rfl⟩ := map1 h
    exact st_val (S.e _ _ _ _ _ C h1) hc
theorem snd_t (S : Snd cal cA n) {X : Cx} {W : Gx} {Γ : Cfg} {ex : Expr} {f : Sl → R Bool} (C : Cok cal cA X W Γ) (h : semT cal (n + 1) Γ ex = some f) : ST X cA W ex f := by
  unfold semT at h
  cases h
  split
  · rename_i f hf
    exact S.t0 _ _ _ _ _ C hf
  · exact st_no
theorem pw_one1 {X : Cx} {o : BoolOp} {a : Expr} {p : Pos} {t : TT} (h : PT X a t) : PW X (.BoolOp o [a] p) t := by
  cases o
  · exact pw_and1 h
  · exact pw_or1 h
theorem snd_w (S : Snd cal cA n) {X : Cx} {W : Gx} {Γ : Cfg} {o : BoolOp} {es : List Expr} {p : Pos} {f : Sl → R Bool} (C : Cok cal cA X W Γ) (h : semW cal (n + 1) Γ o es p = some f) : SW X cA W (.BoolOp o es p) f := by
  unfold semW at h
  split at h
  all_goals first | (cases h; done) | (have hq := ‹n + 1 = Nat.succ _›; cases hq)
  · exact pw_one1 (S.t _ _ _ _ _ C h)
  · obtain ⟨f1, h1, h⟩ := bind1 h
    obtain ⟨f2, h2, h⟩ := bind1 h
    cases h
    exact sw_and (S.t _ _ _ _ _ C h1) (S.w _ _ _ _ _ _ _ C h2)
  · obtain ⟨f1, h1, h⟩ := bind1 h
    obtain ⟨f2, h2, h⟩ := bind1 h
    cases h
    exact sw_or (S.t _ _ _ _ _ C h1) (S.w _ _ _ _ _ _ _ C h2)
theorem rest_i (S : Snd cal cA n) {X : Cx} {W : Gx} {Γ : Cfg} {tg ex : Expr} {f : Sl → R (List D)} (C : Cok cal cA X W Γ) (h : (semE cal n Γ ex).map (fun f => plI (seqI f)) = some f) : SI X cA W tg ex f := by
  obtain ⟨f1, h1, rfl⟩ := map1 h
  exact si_seq (S.e _ _ _ _ _ C h1)
theorem snd_i (S : Snd cal cA n) {X : Cx} {W : Gx} {Γ : Cfg} {tg ex : Expr} {f : Sl → R (List D)} (C : Cok cal cA X W Γ) (h : semI cal (n + 1) Γ tg ex = some f) : SI X cA W tg ex f := by
  unfold semI at h
  split at h
  all_goals first | (cases h; done) | (have hq := ‹n + 1 = Nat.succ _›; cases hq)
  · rename_i x p args pos
    split at h
    · rename_i hc
      obtain ⟨hg, hs⟩ := and1 hc
      split at h
      · rename_i a
        have ha := (and1 hs).1
        split at h
        · rename_i hx
          cases (beq_iff_eq.mp hx)
          obtain ⟨f1, h1, rfl⟩ := map1 h
          have g := C.isGl hg (by decide)
          exact si_rng1 g.1 g.2 (S.e _ _ _ _ _ C h1) ha
        · split at h
          · rename_i hx
            cases (beq_iff_eq.mp hx)
            split at h
            · obtain ⟨f1, h1, rfl⟩ := map1 h
              have g := C.isGl hg (by decide)
              exact si_enum g.1 g.2 (S.e _ _ _ _ _ C h1) ha
            · cases h
          · exact rest_i S C h
      · rename_i a b
        have ha := (and1 hs).1
        have hb := (and1 (and1 hs).2).1
        split at h
        · rename_i hx
          cases (beq_iff_eq.mp hx)
          obtain ⟨f1, h1, h⟩ := bind1 h
          obtain ⟨f2, h2, rfl⟩ := map1 h
          have g := C.isGl hg (by decide)
          exact si_rng2 g.1 g.2 (S.e _ _ _ _ _ C h1) (S.e _ _ _ _ _ C h2) ha hb
        · split at h
          · rename_i hx
            cases (beq_iff_eq.mp hx)
            split at h
            · obtain ⟨f1, h1, h⟩ := bind1 h
              obtain ⟨f2, h2, rfl⟩ := map1 h
              have g := C.isGl hg (by decide)
              exact si_zip g.1 g.2 (S.e _ _ _ _ _ C h1) (S.e _ _ _ _ _ C h2) ha hb
            · cases h
          · exact rest_i S C h
      · cases h
    · exact rest_i S C h
  · obtain ⟨f1, h1, rfl⟩ := map1 h
    exact si_seq (S.e _ _ _ _ _ C h1)
theorem yes_ok {Y : Cx} {X : Cx} {W : Gx} (hK : Y.K = X.K) : PTs Y [] (tTB X cA W yesT) := by
  refine ⟨fun pins s σ H Q I h => pts_nil.run pins s σ H Q I ?_⟩
  obtain ⟨P, F, fp, s, r, p⟩ := h
  exact p H F fp (Same.refl F) r
theorem snd_l (S : Snd cal cA n) {X : Cx} {W : Gx} {Γ : Cfg} {elt tg iter : Expr} {ifs : List Expr} {scope : Scope} {f : Sl → R EV} (C : Cok cal cA X W Γ) (h : semLc cal (n + 1) Γ elt tg iter ifs scope = some f) :
    ∃ (own : List (Str × Nat)) (gi : Sl → R (List D)) (tt : D → Sl → Option Sl) (is : List Nat) (tc : Sl → R Bool) (fe : Sl → R EV),
    (f = lcE gi tt (own.map (·.2)) tc fe ∨ ∃ (i : Nat) (x : Str) (p : Pos), iter = .Name x p ∧ SE X cA W (.Name x p) (nameE i) ∧ f = lcO i tt (own.map (·.2)) tc fe) ∧ SI X cA W tg iter gi ∧ BkOk X cA W scope tg ifs elt own tt is tc fe ∧ notSet iter = true := by
  unfold semLc at h
  dsimp only at h
  obtain ⟨hc, h⟩ := ite1 h
  obtain ⟨hcm, hc⟩ := and1 hc
  obtain ⟨hc, hfree⟩ := and1 hc
  obtain ⟨hblk, hset⟩ := and1 hc
  obtain ⟨gi, h1, h⟩ := bind1 h
  obtain ⟨t, h2, h⟩ := bind1 h
  obtain ⟨tc, h3, h⟩ := bind1 h
  obtain ⟨fe, h4, h⟩ := bind1 h
  obtain ⟨hsub, h⟩ := ite1 h
  cases h
  refine ⟨ownOf Γ.N scope.names, gi, t.1, t.2, tc, fe, ?_, S.i _ _ _ _ _ _ C h1, ?_, hset⟩
  · unfold walked
    split
    · rename_i i hw
      split at hw
      · exact .inr ⟨i, _, _, rfl, C.name hw, rfl⟩
      · cases hw
    · exact .inl rfl
  refine ⟨?_, ?_, ?_, ?_, ?_, ?_⟩
  · rw [C.N, C.sc]
    exact blkOk_by hblk
  · intro i hi
    obtain ⟨q, hq, rfl⟩ := List.mem_map.mp hi
    have z := List.all_eq_true.mp hfree q hq
    refine C.pins _ fun e => ?_
    unfold freeP at z
    rw [e] at z
    cases z
  · intro i hi
    have z := List.all_eq_true.mp hsub i hi
    simpa using z
  · exact tgb_of C h2
  · intro s H A cl fp
    have CB : ∀ P, Cok cal cA (X.blk s H scope (compEnvC scope cl A X.env) fp) (W.blk P) { Γ with sc := relS scope Γ.sc, lp := false, su := none } := fun P => C.blk
    split at h3
    · cases h3; exact yes_ok rfl
    · exact pts_one (ptB rfl fun P => S.t _ _ _ _ _ (CB P) h3)
    · cases h3
  · intro s H A cl fp
    exact peB rfl fun P => S.e _ _ _ _ _ C.blk h4
theorem snd_d (S : Snd cal cA n) {X : Cx} {W : Gx} {Γ : Cfg} {elt tg iter : Expr} {ifs : List Expr} {scope : Scope} {f : Sl → R EV} (C : Cok cal cA X W Γ) (h : semLd cal (n + 1) Γ elt tg iter ifs scope = some f) :
    ∃ (own : List (Str × Nat)) (i : Nat) (x : Str) (p : Pos) (tt : D → Sl → Option Sl) (is : List Nat) (tc : Sl → R Bool) (fe : Sl → R EV),
    f = lcD i tt (own.map (·.2)) tc fe ∧ iter = .Name x p ∧ PE X (.Name x p) (tVar i) ∧ BkOk X cA W scope tg ifs elt own tt is tc fe := by
  unfold semLd at h
  dsimp only at h
  obtain ⟨hc, h⟩ := ite1 h
  obtain ⟨hcm, hc⟩ := and1 hc
  obtain ⟨hblk, hfree⟩ := and1 hc
  obtain ⟨i, h1, h⟩ := bind1 h
  obtain ⟨t, h2, h⟩ := bind1 h
  obtain ⟨tc, h3, h⟩ := bind1 h
  obtain ⟨fe, h4, h⟩ := bind1 h
  obtain ⟨hsub, h⟩ := ite1 h
  cases h
  obtain ⟨x, p, rfl, hx⟩ : ∃ x p, iter = .Name x p ∧ slotV Γ x = some i := by
    unfold walked at h1
    split at h1
    · exact ⟨_, _, rfl, h1⟩
    · cases h1
  refine ⟨ownOf Γ.N scope.names, i, x, p, t.1, t.2, tc, fe, rfl, rfl, C.var hx, ?_⟩
  refine ⟨?_, ?_, ?_, ?_, ?_, ?_⟩
  · rw [C.N, C.sc]
    exact blkOk_by hblk
  · intro i hi
    obtain ⟨q, hq, rfl⟩ := List.mem_map.mp hi
    have z := List.all_eq_true.mp hfree q hq
    refine C.pins _ fun e => ?_
    unfold freeP at z
    rw [e] at z
    cases z
  · intro i hi
    have z := List.all_eq_true.mp hsub i hi
    simpa using z
  · exact tgb_of C h2
  · intro s H A cl fp
    have CB : ∀ P, Cok cal cA (X.blk s H scope (compEnvC scope cl A X.env) fp) (W.blk P) { Γ with sc := relS scope Γ.sc, lp := false, su := none } := fun P => C.blk
    split at h3
    · cases h3; exact yes_ok rfl
    · exact pts_one (ptB rfl fun P => S.t _ _ _ _ _ (CB P) h3)
    · cases h3
  · intro s H A cl fp
    exact peB rfl fun P => S.e _ _ _ _ _ C.blk h4
end NS
namespace NS
open PySem PySem.Spec PyProof.Rows L2
variable {cal : Nat → List D → CR} {cA : Nat → Addr} {n : Nat}
theorem snd_zero : Snd cal cA 0 := by
  refine ⟨?_, ?_, ?_, ?_, ?_, ?_, ?_, ?_, ?_, ?_, ?_, ?_⟩
  · intro X W Γ ex f C h; unfold semE at h; cases h
  · intro X W Γ ex f C h; unfold semE0 at h; cases h
  · intro X W Γ o m args f apos cpos C hl h; unfold semM at h; cases h
  · intro X W Γ x p args f pos C hg hl hs h; unfold semB at h; cases h
  · intro X W Γ es fs C h; unfold semX at h; cases h
  · intro X W Γ ex f C h; unfold semO at h; cases h
  · intro X W Γ ex f C h; unfold semT at h; cases h
  · intro X W Γ ex f C h; unfold semT0 at h; cases h
  · intro X W Γ o es p f C h; unfold semW at h; cases h
  · intro X W Γ tg ex f C h; unfold semI at h; cases h
  · intro X W Γ elt tg iter ifs scope f C h; unfold semLc at h; cases h
  · intro X W Γ elt tg iter ifs scope f C h; unfold semLd at h; cases h
theorem snd : ∀ n, Snd cal cA n
  | 0 => snd_zero
  | n + 1 => have S := snd n
    ⟨fun _ _ _ _ _ C h => snd_e S C h, fun _ _ _ _ _ C h => snd_e0 S C h, fun _ _ _ _ _ _ _ _ _ C hl h => snd_m S C hl h, fun _ _ _ _ _ _ _ _ C hg hl hs h => snd_b S C hg hl hs h, fun _ _ _ _ _ C h => snd_x S C h, fun _ _ _ _ _ C h => snd_o S C h, fun _ _ _ _ _ C h => snd_t S C h, fun _ _ _ _ _ C h => snd_t0 S C h, fun _ _ _ _ _ _ _ C h => snd_w S C h, fun _ _ _ _ _ _ C h => snd_i S C h, fun _ _ _ _ _ _ _ _ _ C h => snd_l S C h, fun _ _ _ _ _ _ _ _ _ C h => snd_d S C h⟩
structure SndS (cal : Nat → List D → CR) (cA : Nat → Addr) (n : Nat) : Prop where
  s0 : ∀ X W Γ st f, Cok cal cA X W Γ → semS0 cal n Γ st = some f → SS X cA W st f
  s : ∀ X W Γ st f, Cok cal cA X W Γ → semS cal n Γ st = some f → SS X cA W st f
  ss : ∀ X W Γ st f, Cok cal cA X W Γ → semSs cal n Γ st = some f → SSs X cA W st f
theorem snds_ss (S : SndS cal cA n) {X : Cx} {W : Gx} {Γ : Cfg} {st : List Stmt} {f : Sl → Fl} (C : Cok cal cA X W Γ) (h : semSs cal (n + 1) Γ st = some f) : SSs X cA W st f := by
  unfold semSs at h
  split at h
  all_goals first | (cases h; done) | (have hq := ‹n + 1 = Nat.succ _›; cases hq)
  · cases h; exact sss_nil
  · exact sss_one (S.s _ _ _ _ _ C h)
  · obtain ⟨f1, h1, h⟩ := bind1 h
    obtain ⟨f2, h2, h⟩ := bind1 h
    cases h
    exact sss_cons (S.s _ _ _ _ _ C h1) (S.ss _ _ _ _ _ C h2)
theorem sole {t e : Expr} {l : Nat} {env : Env} (h : notComp e = true) : swapsWithSole [t] e l env = pure false := swaps_no h
theorem nost {ts : List Expr} {k : Nat} {p : Pos} {e : Expr} {env : Env} (h : (match e with
      | .Tuple _ _ _ => false
      | _ => true) = true) : swappedStores [.Tuple ts k p] e env = pure none := by
  cases e <;> first | rfl | cases h
theorem ss_brk {X : Cx} {W : Gx} {pos : Pos} : SS X cA W (.Break pos) brkS := by
  refine PS_mono ps_break fun D σ H h => ?_
  obtain ⟨F, fp, s, r, p⟩ := h
  exact p σ H F fp (Same.refl F) r
theorem ss_cnt {X : Cx} {W : Gx} {pos : Pos} : SS X cA W (.Continue pos) cntS := by
  refine PS_mono ps_continue fun D σ H h => ?_
  obtain ⟨F, fp, s, r, p⟩ := h
  exact p σ H F fp (Same.refl F) r
theorem ss_doc {X : Cx} {W : Gx} {x : Str} {j : Nat} {p pos : Pos} : SS X cA W (.Expr (.Constant (.str x) j p) pos) nxS := by
  refine PS_mono ps_doc fun D σ H h => ?_
  obtain ⟨F, fp, s, r, p⟩ := h
  exact p σ H F fp (Same.refl F) r
theorem swB_ok {elt : Expr} {scope : Scope} {pos py : Pos} {y : Str} {sl : Nat} {sc : Scope} (h : swB elt scope pos y py sl sc = true) : sc.names.lookup y = some NameKind.local ∧ sc.kind = .function ∧ (py.line == pos.line) = true ∧ (scope.names.any fun (n, k) => n == y && (k == .local || k == .cell)) = false := by
  unfold swB at h
  obtain ⟨h, ha⟩ := and1 h
  obtain ⟨h, hl⟩ := and1 h
  obtain ⟨h, hk⟩ := and1 h
  refine ⟨?_, ?_, hl, by simpa using ha⟩
  · split at h
    · rename_i e; exact e
    · cases h
  · split at hk
    · rename_i e; exact e
    · cases hk
theorem cellB_ok {sc : Scope} {x : Str} (h : cellB sc x = true) : sc.names.lookup x = some NameKind.cell := by
  unfold cellB at h
  split at h
  · rename_i e; exact e
  · cases h
theorem sw_cell {elt : Expr} {gs : List Comprehension} {scope : Scope} {pos py : Pos} {y : Str} {l : Nat} {env : Env} (h : env.scope.names.lookup y = some NameKind.cell) : swapsWith (.ListComp elt gs scope pos) (some (.Name y py)) l env = pure false := by
  have k : env.kindOf y = some .cell := h
  unfold swapsWith
  simp only [k]
  show pure ((env.blockKind == ScopeKind.function) && (some NameKind.cell == some NameKind.local) && _ && _) = _
  rw [show (some NameKind.cell == some NameKind.local) = false from rfl, Bool.and_false, Bool.false_and, Bool.false_and]
theorem sub_plain {x : Str} {p1 p2 : Pos} {b : Expr} {env : Env} (h : notSlice b = true) (v : Value) : assign (.Subscript (.Name x p1) b p2) env v = (do
      let ov ← holding [v] (eval (.Name x p1) env)
      let iv ← holding [v, ov] (eval b env)
      standAt p2
      holding [v, ov, iv] (setItem ov iv v)
      release [v, ov, iv] []) := by
  cases b <;> first | rfl | cases h
theorem slotL_of {Γ : Cfg} {x : Str} {i : Nat} (hi : slotL Γ x = some i) : slotOf x Γ.N = some i := by
  unfold slotL at hi
  split at hi
  · obtain ⟨j, hj, hi⟩ := Option.bind_eq_some_iff.mp hi
    have : j = i := by
      split at hi
      · cases hi
      · cases hi
        rfl
    subst this
    exact hj
  · cases hi
theorem snds_s0 (S : SndS cal cA n) {X : Cx} {W : Gx} {Γ : Cfg} {st : Stmt} {f : Sl → Fl} (C : Cok cal cA X W Γ) (h : semS0 cal (n + 1) Γ st = some f) : SS X cA W st f := by
  have E := snd (cal := cal) (cA := cA) n
  have hN : X.N.Nodup := by rw [C.N]; exact C.nd
  unfold semS0 at h
  split at h
  all_goals first | (cases h; done) | (have hq := ‹n + 1 = Nat.succ _›; cases hq)
  · cases h; exact ss_pass
  · cases h; exact ss_brk
  · cases h; exact ss_cnt
  · cases h; exact ss_doc
  · cases h; exact ss_retN
  · obtain ⟨f1, h1, rfl⟩ := map1 h
    exact ss_ret (E.e _ _ _ _ _ C h1)
  · obtain ⟨hc, h⟩ := ite1 h
    obtain ⟨f1, h1, rfl⟩ := map1 h
    exact ss_expr (E.e _ _ _ _ _ C h1) hc
  · obtain ⟨f1, h1, h⟩ := bind1 h
    obtain ⟨f2, h2, h⟩ := bind1 h
    obtain ⟨f3, h3, h⟩ := bind1 h
    cases h
    exact ss_if (E.t _ _ _ _ _ C h1) (S.ss _ _ _ _ _ C h2) (S.ss _ _ _ _ _ C h3)
  · -- name = e
    obtain ⟨i, hi, h⟩ := bind1 h
    obtain ⟨g1, g2, g3, g4⟩ := C.loc hi
    split at h
    · split at h
      · rename_i hc
        obtain ⟨hc, hlp⟩ := and1 hc
        obtain ⟨hlp, hcm⟩ := and1 hlp
        obtain ⟨f1, h1, rfl⟩ := map1 h
        obtain ⟨e1, e2, hl, ha⟩ := swB_ok hc
        rw [← C.sc] at e1 e2
        split at h1
        · obtain ⟨own, j, x, p, tt, is, tc, fe, rfl, rfl, hx, hb⟩ := E.d _ _ _ _ _ _ _ _ _ C h1
          exact ss_setLcD (C.calm hcm) hN g1 e1 g4 (sw_true e2 e1 hl ha) hx hb
        obtain ⟨own, gi, tt, is, tc, fe, hf, hit, hb, hs⟩ := E.l _ _ _ _ _ _ _ _ _ C h1
        rcases hf with rfl | ⟨j, x, p, rfl, hx, rfl⟩
        · exact ss_setLc (C.calm hcm) hN g1 e1 g4 (sw_true e2 e1 hl ha) hit hb hs
        · exact ss_setLcO (C.calm hcm) hN g1 e1 g4 (sw_true e2 e1 hl ha) hx hb
      · obtain ⟨hc, h⟩ := ite1 h
        have hcm := (and1 (and1 hc).2).2
        obtain ⟨f1, h1, rfl⟩ := map1 h
        obtain ⟨own, gi, tt, is, tc, fe, hf, hit, hb, hs⟩ := E.l _ _ _ _ _ _ _ _ _ C h1
        have hk := cellB_ok (and1 hc).1
        rw [← C.sc] at hk
        rcases hf with rfl | ⟨j, x, p, rfl, hx, rfl⟩
        · exact ss_set hN g1 g2 g3 g4 (se_lc (C.calm hcm) hN hit hb hs) (sw_cell hk)
        · exact ss_set hN g1 g2 g3 g4 (se_lcO (C.calm hcm) hN hx hb) (sw_cell hk)
    · obtain ⟨hc, h⟩ := ite1 h
      obtain ⟨f1, h1, rfl⟩ := map1 h
      exact ss_set hN g1 g2 g3 g4 (E.e _ _ _ _ _ C h1) (swaps_no hc)
  · obtain ⟨hc, h⟩ := ite1 h
    obtain ⟨hc, ht⟩ := and1 hc
    obtain ⟨t, h1, h⟩ := bind1 h
    obtain ⟨f1, h2, rfl⟩ := map1 h
    exact ss_asg (C.tgt h1) (E.e _ _ _ _ _ C h2) (sole hc) (nost ht) rfl
  · obtain ⟨hc, h⟩ := ite1 h
    obtain ⟨hc, hsl⟩ := and1 hc
    obtain ⟨i, hi, h⟩ := bind1 h
    obtain ⟨f1, h1, h⟩ := bind1 h
    obtain ⟨f2, h2, rfl⟩ := map1 h
    split
    · exact ss_dsto (by have := C.un; omega) (C.var hi) (E.e _ _ _ _ _ C h1) (E.e _ _ _ _ _ C h2) hc hsl
    · exact ss_sto (C.name hi) (E.e _ _ _ _ _ C h1) (E.e _ _ _ _ _ C h2) hc (sub_plain hsl)
  · obtain ⟨hc, h⟩ := ite1 h
    obtain ⟨i, hi, h⟩ := bind1 h
    obtain ⟨f1, h1, rfl⟩ := map1 h
    exact ss_asto C.okc (C.var hi) (E.e _ _ _ _ _ C h1) hc
  · obtain ⟨hc, h⟩ := ite1 h
    obtain ⟨i, hi, h⟩ := bind1 h
    obtain ⟨f1, h1, rfl⟩ := map1 h
    exact ss_aaug in_add (fun i j H Q h => ⟨i, j, rfl, rfl, h⟩) C.okc (C.var hi) (E.e _ _ _ _ _ C h1)
  · obtain ⟨hc, h⟩ := ite1 h
    obtain ⟨hlp, hs⟩ := and1 hc
    obtain ⟨hlp, hcm⟩ := and1 hlp
    split at h
    · obtain ⟨i, h1, h⟩ := bind1 h
      obtain ⟨t, h2, h⟩ := bind1 h
      obtain ⟨f3, h3, h⟩ := bind1 h
      cases h
      unfold walked at h1
      split at h1
      · exact ss_forD (C.lp hlp).1 (C.calm hcm) (C.var h1) (C.tgt h2) (S.ss _ _ _ _ _ C h3)
      · cases h1
    obtain ⟨f1, h1, h⟩ := bind1 h
    obtain ⟨t, h2, h⟩ := bind1 h
    obtain ⟨f3, h3, h⟩ := bind1 h
    cases h
    exact ss_for (C.lp hlp).1 (C.calm hcm) (E.i _ _ _ _ _ _ C h1) (C.tgt h2) (S.ss _ _ _ _ _ C h3) hs
  · -- raise
    obtain ⟨hc, h⟩ := ite1 h
    obtain ⟨hcm, hc⟩ := and1 hc
    obtain ⟨hcm, htb⟩ := and1 hcm
    obtain ⟨hg, hc⟩ := and1 hc
    obtain ⟨hok, hc⟩ := and1 hc
    obtain ⟨hsu, hst⟩ := and1 hc
    obtain ⟨e, h1, h⟩ := bind1 h
    obtain ⟨f1, h2, rfl⟩ := map1 h
    obtain ⟨hm, rfl⟩ := xcNm_nm h1
    obtain ⟨k1, k2, fI, k3, k4⟩ := C.xcl e hm
    have hr : Room 0 X.A := C.rm hcm fun z => by rw [z] at hm; cases hm
    exact ss_raise (C.calm hcm) (C.tk htb) k3 hr (C.gl_ hg) k4 (C.blt _ (Option.isNone_iff_eq_none.mp hsu) (by decide)) (okName_of hok).1 (E.e _ _ _ _ _ C h2) hst
  · -- try
    obtain ⟨hc, h⟩ := ite1 h
    obtain ⟨hlp, hc⟩ := and1 hc
    obtain ⟨hlp, htb⟩ := and1 hlp
    obtain ⟨hsu, hc⟩ := and1 hc
    obtain ⟨hv, hc⟩ := and1 hc
    obtain ⟨hok, hx⟩ := and1 hc
    split at h
    · rename_i hloc
      obtain ⟨i, hi, h⟩ := bind1 h
      obtain ⟨f1, h1, rfl⟩ := map1 h
      have hsu := Option.isNone_iff_eq_none.mp hsu
      obtain ⟨g1, g2, g3, g4⟩ := C.loc hi
      obtain ⟨s1, s2⟩ := C.st hlp
      obtain ⟨cv, e1, e2, e3⟩ := C.cls hx
      have hsl := slotL_of hi
      refine ss_try s1 s2 hN g1 (by rw [← C.sc] at hloc; exact hloc) e2 (C.tk htb) g4 (fun c b h => (e3 c b h).1) (fun W' pn xe tk hp => S.ss _ _ _ _ _ (C.tr hsu tk hp) h1) (fun xn a dd oe pn hxf hz hf => ?_)
      split
      · rename_i g hg
        exact S.ss _ _ _ _ _ (C.suite hsl hz hf ⟨s1, s2⟩) hg
      · exact ⟨fun _ _ _ _ _ _ h => by
          obtain ⟨F, fp, s, r, p⟩ := h
          exact p.elim⟩
    · cases h
  · obtain ⟨hc, h⟩ := ite1 h
    obtain ⟨hlp, hc⟩ := and1 hc
    obtain ⟨hlp, htb⟩ := and1 hlp
    obtain ⟨hsu, hx⟩ := and1 hc
    obtain ⟨f1, h1, rfl⟩ := map1 h
    have hsu := Option.isNone_iff_eq_none.mp hsu
    obtain ⟨s1, s2⟩ := C.st hlp
    obtain ⟨cv, e1, e2, e3⟩ := C.cls hx
    refine ss_tryO s1 s2 e2 (C.tk htb) (fun c b h => (e3 c b h).1) (fun W' pn xe tk hp => S.ss _ _ _ _ _ (C.tr hsu tk hp) h1) (fun a oe cls d pn hz hf => ?_)
    split
    · rename_i g hg
      exact S.ss _ _ _ _ _ C.suiteO hg
    · exact ⟨fun _ _ _ _ _ _ h => by
        obtain ⟨F, fp, s, r, p⟩ := h
        exact p.elim⟩
  · obtain ⟨hlp, h⟩ := ite1 h
    obtain ⟨f1, h1, h⟩ := bind1 h
    obtain ⟨f3, h3, h⟩ := bind1 h
    cases h
    exact ss_while (C.lp hlp).1 (E.t _ _ _ _ _ C h1) (S.ss _ _ _ _ _ C h3)
theorem snds_s (S : SndS cal cA n) {X : Cx} {W : Gx} {Γ : Cfg} {st : Stmt} {f : Sl → Fl} (C : Cok cal cA X W Γ) (h : semS cal (n + 1) Γ st = some f) : SS X cA W st f := by
  unfold semS at h
  cases h
  split
  · rename_i f hf
    exact S.s0 _ _ _ _ _ C hf
  · exact ss_no
theorem snds_zero : SndS cal cA 0 := by
  refine ⟨?_, ?_, ?_⟩
  · intro X W Γ st f C h; unfold semS0 at h; cases h
  · intro X W Γ st f C h; unfold semS at h; cases h
  · intro X W Γ st f C h; unfold semSs at h; cases h
theorem snds : ∀ n, SndS cal cA n
  | 0 => snds_zero
  | n + 1 => have S := snds n
    ⟨fun _ _ _ _ _ C h => snds_s0 S C h, fun _ _ _ _ _ C h => snds_s S C h, fun _ _ _ _ _ C h => snds_ss S C h⟩
end NS
namespace NS
open PySem PySem.Spec PyProof.Rows L2
/-! ## the errors of a text -/
structure Ex where
  x : Xc
  st : Stmt
def Ex.C (e : Ex) (K : PySem.W.Frag) : Addr := He.ga K e.x.nm
def Ex.fI (e : Ex) (K : PySem.W.Frag) : Addr := He.fAd K (e.x.nm, some "__init__")
def Ex.qual (e : Ex) : Str := e.x.nm ++ (".__init__" : Str)
/-- the parts of its text -/
def exQ (b : List Stmt) : Nat → Pos := match b with
  | [.Expr (.Call (.Attribute (.Call (.Name _ q0) _ _ q1) _ q2) [.Constant _ _ q3] _ q4) q5, .Assign [.Attribute (.Name _ q6) _ q7] (.Name _ q8) q9] => fun n => match n with
    | 0 => q0 | 1 => q1 | 2 => q2 | 3 => q3 | 4 => q4 | 5 => q5 | 6 => q6 | 7 => q7 | 8 => q8 | _ => q9
  | _ => fun _ => ⟨0, 0, 0, 0⟩
def exM (b : List Stmt) : Str := match b with
  | .Expr (.Call _ [.Constant (.str m) _ _] _ _) _ :: _ => m
  | _ => ""
def exK (b : List Stmt) : Nat := match b with
  | .Expr (.Call _ [.Constant _ k _] _ _) _ :: _ => k
  | _ => 0
/-- the text of its __init__ -/
structure ExOk (e : Ex) : Prop where
  ar : ∃ p1 p2, defArgs e.st = NX.iA e.x.fl p1 p2
  bd : ∃ msg k q, defBody e.st = NX.iB e.x.fl msg k q ∧ ((q 2).endLine == (q 4).line) = true
  sc : defScope e.st = NX.iS e.x.fl
  fl : e.x.fl = "at" ∨ e.x.fl = "what"
abbrev XnW : Type := Option (Str × Str × Arguments × FuncBody × Scope × Addr × Addr)
def xnW (K : PySem.W.Frag) (e : Ex) : XnW := match K.lookup (e.fI K) with
  | some ⟨_, _, .func fd, _⟩ => some (fd.name, fd.qualname, fd.params, fd.body, fd.scope, fd.globals, fd.builtins)
  | _ => none
def Ex.val (e : Ex) : XnW := some ("__init__", e.qual, defArgs e.st, .stmts (defBody e.st), defScope e.st, mainGlobals, builtinsNs)
def exClB (K : PySem.W.Frag) (C : Addr) : Bool := match K.lookup C with
  | some ⟨.type "type", _, .cls cd, sl⟩ => (match cd.mro, sl.toList with
    | .ref C' :: bm, [_, _, _, _, some (.builtin n), _] => C' == C && (n == "ValueError.__new__" && (!cd.hasDel && (cd.hasDict && PySem.HandSPX.refsVE bm)))
    | _, _ => false)
  | _ => false
theorem exClB_ok {K : PySem.W.Frag} {C : Addr} (h : exClB K C = true) : ∃ nm q N bs bm sn sub ab col dd k0 k1 k2 k3 k5, K.lookup C = some (excClassObj nm q C N bs bm true sn sub ab col dd k0 k1 k2 k3 k5 "ValueError.__new__") ∧ PySem.HandSPX.refsVE bm = true := by
  unfold exClB at h
  split at h
  · rename_i dd cd sl ho
    split at h
    · rename_i C' bm k0 k1 k2 k3 n k5 hm hs
      simp only [Bool.and_eq_true, beq_iff_eq, Bool.not_eq_true'] at h
      obtain ⟨rfl, rfl, hdel, hd, ht⟩ := h
      obtain ⟨nm, bs, mro, ns, qn, hdc, sn, sub, ab, col, del⟩ := cd
      dsimp only at hm hdel hd
      subst hm hdel hd
      have hsl : sl = #[k0, k1, k2, k3, some (.builtin "ValueError.__new__"), k5] := by
        obtain ⟨l⟩ := sl
        simp only at hs
        rw [hs]
      subst hsl
      exact ⟨nm, qn, ns, bs, bm, sn, sub, ab, col, dd, k0, k1, k2, k3, k5, ho, ht⟩
    · cases h
  · cases h
def cellB' (K : PySem.W.Frag) (cc C : Addr) : Bool := match K.lookup cc with
  | some ⟨_, _, .cell (some (.ref D)), _⟩ => D == C
  | _ => false
def fileB (K : PySem.W.Frag) (file : Str) (cda : Addr) : Bool := match K.lookup cda with
  | some ⟨_, _, .fields vs, _⟩ => (match (vs[2]? : Option Value) with
    | some (.str f _) => file == f
    | _ => false)
  | _ => false
def exFnB (K : PySem.W.Frag) (file : Str) (e : Ex) : Bool := match K.lookup (e.fI K) with
  | some ⟨_, _, .func fd, _⟩ => decide (fd.defaults = .none) && (decide (fd.kwdefaults = .none) && (match fd.closure, fd.code with
    | [(n, cc)], .ref cda => n == ("__class__" : Str) && (PySem.W.codeIn K (.ref cda) e.qual && (cellB' K cc (e.C K) && fileB K file cda))
    | _, _ => false))
  | _ => false
theorem exFnB_ok {K : PySem.W.Frag} {P : Program} {file : Str} {e : Ex} (O : ExOk e) (h : exFnB K file e = true) (hw : xnW K e = e.val) (hf : P.main.file = file) : ∃ (oc : Value) (od : Option Addr) (doc pm : Value) (an : Option Addr) (cda : Addr) (ct : Value) (osl : Array (Option Value)) (p1 p2 : Pos) (q : Nat → Pos) (msg qual : Str) (k : Nat) (cc : Addr) (ccl : Value) (cdd : Option Addr) (ccs : Array (Option Value)) (vs : Array Value) (file : Str) (tf : Tok) (cl : Value) (cld : Option Addr) (csl : Array (Option Value)),
    K.lookup (e.fI K) = some ⟨oc, od, .func (PySem.W.ksFn "__init__" qual (NX.iA e.x.fl p1 p2) (NX.iB e.x.fl msg k q) (NX.iS e.x.fl) .none .none doc pm an (.ref cda) ct cc), osl⟩ ∧ PySem.W.codeIn K (.ref cda) qual = true ∧
    K.lookup cda = some ⟨ccl, cdd, .fields vs, ccs⟩ ∧ vs[2]? = some (.str file tf) ∧ ((P.main.file : Str) == file) = true ∧ K.lookup cc = some ⟨cl, cld, .cell (some (.ref (e.C K))), csl⟩ ∧ ((q 2).endLine == (q 4).line) = true := by
  obtain ⟨⟨p1, p2, har⟩, ⟨msg, k, q, hbd, hli⟩, hsc, _⟩ := O
  unfold xnW Ex.val at hw
  unfold exFnB at h
  cases ho : K.lookup (e.fI K) with
  | none => rw [ho] at h; cases h
  | some o =>
    obtain ⟨oc, od, dt, osl⟩ := o
    rw [ho] at h hw
    cases dt with
    | func fd =>
      dsimp only at h hw
      rw [Bool.and_eq_true, Bool.and_eq_true] at h
      obtain ⟨h1, h2, h3⟩ := h
      split at h3
      · rename_i n cc cda hcl hcd
        rw [Bool.and_eq_true, Bool.and_eq_true, Bool.and_eq_true] at h3
        obtain ⟨g1, g2, g3, g4⟩ := h3
        have d1 := of_decide_eq_true h1
        have d2 := of_decide_eq_true h2
        have d3 := beq_iff_eq.mp g1
        clear h1 h2 g1
        obtain ⟨n1, n2, n3, n4, n5, n6, n7, n8, n9, n10, n11, n12, n13, n14, n15⟩ := fd
        simp only [Option.some.injEq, Prod.mk.injEq] at hw
        obtain ⟨w1, w2, w3, w4, w5, w6, w7⟩ := hw
        dsimp only at d1 d2 hcl hcd
        subst d1 d2 hcl hcd w1 w2 w3 w4 w5 w6 w7 d3
        unfold cellB' at g3
        split at g3
        · rename_i cl cld D csl hcell
          have g3 := beq_iff_eq.mp g3
          subst g3
          unfold fileB at g4
          split at g4
          · rename_i ccl cdd vs ccs hcode
            split at g4
            · rename_i f tf hvs
              refine ⟨oc, od, n10, n11, n12, cda, n14, osl, p1, p2, q, msg, e.qual, k, cc, ccl, cdd, ccs, vs, f, tf, cl, cld, csl, ?_, g2, hcode, hvs, by rw [hf]; exact g4, hcell, hli⟩
              rw [har, hbd, hsc]
            · cases g4
          · cases g4
        · cases g3
      · cases h3
    | _ => cases h
/-- the other facts -/
def exB (K : PySem.W.Frag) (file : Str) (e : Ex) : Bool :=
  exClB K (e.C K) && (exFnB K file e && (decide (PySem.W.findIn K (.ref (e.C K)) "__setattr__" = some (some (.builtin "object.__setattr__"))) && (decide (PySem.W.findIn K (.ref (e.C K)) e.x.fl = some none) &&
  (decide (PySem.W.findIn K (.ref (e.C K)) "__init__" = some (some (.ref (e.fI K)))) && (decide (PySem.W.typeIn K (.ref (e.fI K)) = some (.type "function")) && (PySem.W.keepIn K (.ref (e.C K)) &&
  (decide (PySem.W.subIn K (.ref (e.C K)) (.type "BaseException") = some true) && (decide (PySem.W.subIn K (.ref (e.C K)) (.type "ValueError") = some true) && (decide (PySem.W.typeIn K (.ref (e.C K)) = some (.type "type")) &&
  (PySem.W.hasDictIn K (e.C K) && (decide (PySem.W.nsIn K cStatics "thirdparty.any" = some none) && (decide (PySem.W.ks_superIn K (e.C K) (e.C K) "__init__" = some (some (.builtin "ValueError.__init__"))) && (decide (PySem.W.mroIn K (e.C K) (.ref (e.C K)) = some true) &&
  ((PySem.W.clsIn K (e.C K)).isSome && (decide (PySem.W.findIn K (.ref (e.C K)) "__getattribute__" = some (some (.builtin "BaseException.__getattribute__"))) && (decide (PySem.W.findIn K (.ref (e.C K)) "__getattr__" = some none) &&
  (decide (PySem.W.findIn K (.ref (e.C K)) "__class__" = some (some (.builtin "object.__class__"))) && (decide (PySem.W.specialIn K (.builtin "object.__class__") "__get__" = some (some (.builtin "getset_descriptor.__get__"))) && (decide (PySem.W.takesIn K (.builtin "object.__class__") = some true) &&
  decide (PySem.W.mroIn K (e.C K) (.type "object") = some true))))))))))))))))))))
theorem exB_ok {K : PySem.W.Frag} {P : Program} {file : Str} {e : Ex} (O : ExOk e) (h : exB K file e = true) (hw : xnW K e = e.val) (hf : P.main.file = file) (ht : (P.main.scope.names.lookup ("super" : Str)).isSome = false) :
    NX.ExTxt P K (e.C K) (e.fI K) e.x.fl ∧ XkC K (e.C K) ∧ PySem.W.findIn K (.ref (e.C K)) e.x.fl = some none := by
  unfold exB at h
  simp only [Bool.and_eq_true] at h
  obtain ⟨h1, h2, h3, h4, h5, h6, h7, h8, h9, h10, h11, h12, h13, h14, h15, h16, h17, h18, h19, h20, h21⟩ := h
  exact ⟨⟨exClB_ok h1, of_decide_eq_true h3, of_decide_eq_true h4, of_decide_eq_true h5, of_decide_eq_true h6, h7, of_decide_eq_true h8, of_decide_eq_true h9, of_decide_eq_true h10, h11, of_decide_eq_true h12, of_decide_eq_true h13, of_decide_eq_true h14, O.fl, exFnB_ok O h2 hw hf, ht⟩,
    ⟨h15, of_decide_eq_true h16, of_decide_eq_true h17, of_decide_eq_true h8, h11, of_decide_eq_true h18, of_decide_eq_true h19, of_decide_eq_true h20, of_decide_eq_true h21⟩, of_decide_eq_true h4⟩
/-- classes that are named -/
def cvOf (K : PySem.W.Frag) (x : Str) : Value := match PySem.W.nsIn K mainGlobals x with
  | some (some (.ref a)) => .ref a
  | _ => .type "ValueError"
def xnB' (K : PySem.W.Frag) (xs : List Ex) (x : Str) : Bool := (match PySem.W.nsIn K mainGlobals x with
  | some (some (.ref _)) => true
  | some none => decide (x = "ValueError")
  | _ => false) && xs.all fun e => decide (PySem.W.exmOne K (.ref (e.C K)) (cvOf K x) = some (e.x.anc.contains x)) && decide (PySem.W.kitOne K (.ref (e.C K)) (cvOf K x) = some (e.x.anc.contains x))
theorem boot_VE : bootBuiltins ("ValueError" : Str) = some (.type "ValueError") := by kernel_rfl
theorem xnB'_ok {K : PySem.W.Frag} {h : Heap} {mg : Str → Option Value} {xs : List Ex} {x : Str} (X : K.In h) (G : h.Ns mainGlobals mg) (hb : xnB' K xs x = true) : ∃ cv, clsV cv = true ∧ (mg x = some cv ∨ (mg x = none ∧ bootBuiltins x = some cv ∧ x ≠ "__name__")) ∧ ∀ e ∈ xs, PySem.W.exmOne K (.ref (e.C K)) cv = some (e.x.anc.contains x) ∧ PySem.W.kitOne K (.ref (e.C K)) cv = some (e.x.anc.contains x) := by
  unfold xnB' at hb
  rw [Bool.and_eq_true] at hb
  obtain ⟨h1, h2⟩ := hb
  refine ⟨cvOf K x, ?_, ?_, fun e he => ?_⟩
  · unfold cvOf
    split <;> rfl
  · split at h1
    · rename_i a ha
      refine .inl ?_
      have : cvOf K x = .ref a := by
        unfold cvOf
        rw [ha]
      rw [this]
      exact PySem.W.mg_of X G ha
    · rename_i ha
      have hx := of_decide_eq_true h1
      have : cvOf K x = .type "ValueError" := by
        unfold cvOf
        rw [ha]
      rw [this]
      refine .inr ⟨PySem.W.mg_none_of X G ha, by rw [hx]; exact boot_VE, by rw [hx]; decide⟩
    · cases h1
  · have := List.all_eq_true.mp h2 e he
    rw [Bool.and_eq_true] at this
    exact ⟨of_decide_eq_true this.1, of_decide_eq_true this.2⟩
/-- the addresses that are looked at -/
def cellsG (g : Addr → Option Obj) (as : List Addr) : List Addr := (as.flatMap fun a => match g a with
  | some ⟨_, _, .func fd, _⟩ => fd.closure.map (·.2)
  | _ => []).eraseDups
end NS
namespace NS
open PySem PySem.Spec PyProof.Rows L2

/-! ## 15. a whole text -/
/-- a module's name for a value -/
inductive Cs where
  | int (i : Int)
  | str (x : Str)
  | tup (xs : List Cs)
mutual
def Cs.d : Cs → D
  | .int i => .int i
  | .str x => .str x
  | .tup xs => .tup (Cs.ds xs)
def Cs.ds : List Cs → List D
  | [] => []
  | c :: cs => c.d :: Cs.ds cs
end
mutual
/-- it stands there -/
def csB (K : PySem.W.Frag) : Cs → Value → Bool
  | .int i, .int j _ => decide (j = i)
  | .str x, .str y _ => decide (y = x)
  | .tup cs, .ref a => (match K.lookup a with
    | some ⟨.type c, _, .seq its _, _⟩ => decide (c = "tuple") && (decide (its.size ≤ sizeLine) && csBs K cs its.toList)
    | _ => false)
  | _, _ => false
def csBs (K : PySem.W.Frag) : List Cs → List Value → Bool
  | [], [] => true
  | c :: cs, u :: us => csB K c u && csBs K cs us
  | _, _ => false
end
def csOk (K : PySem.W.Frag) (p : Str × Cs) : Bool := match PySem.W.nsIn K mainGlobals p.1 with
  | some (some u) => csB K p.2 u
  | _ => false
mutual
theorem csB_ok {K : PySem.W.Frag} : ∀ (c : Cs) (u : Value), csB K c u = true → ∃ v, RelV v u ∧ ∀ (cA : Nat → Addr) F, RepF K cA F c.d v
  | .int i, u, h => by
    cases u with
    | int j t =>
      have h : decide (j = i) = true := h
      exact ⟨.int i, ⟨t, by rw [of_decide_eq_true h]⟩, fun _ _ => rfl⟩
    | _ => cases h
  | .str x, u, h => by
    cases u with
    | str y t =>
      have h : decide (y = x) = true := h
      exact ⟨.str x, ⟨t, by rw [of_decide_eq_true h]⟩, fun _ _ => rfl⟩
    | _ => cases h
  | .tup cs, u, h => by
    cases u with
    | ref a =>
      have h : (match K.lookup a with
        | some ⟨.type c, _, .seq its _, _⟩ => decide (c = "tuple") && (decide (its.size ≤ sizeLine) && csBs K cs its.toList)
        | _ => false) = true := h
      split at h
      · rename_i c od its n sl q
        rw [Bool.and_eq_true, Bool.and_eq_true] at h
        obtain ⟨vs, rv, hr⟩ := csBs_ok cs its.toList h.2.2
        exact ⟨.ref a, rfl, fun cA F => ⟨a, vs, rfl, .inr ⟨_, its, n, q, congrArg Value.type (of_decide_eq_true h.1), rfl, of_decide_eq_true h.2.1, rv⟩, hr cA F⟩⟩
      · cases h
    | _ => cases h
theorem csBs_ok {K : PySem.W.Frag} : ∀ (cs : List Cs) (us : List Value), csBs K cs us = true → ∃ vs, Vals vs us ∧ ∀ (cA : Nat → Addr) F, RepFs K cA F (Cs.ds cs) vs
  | [], us, h => by
    cases us with
    | nil => exact ⟨[], .nil, fun _ _ => rfl⟩
    | cons u us => cases h
  | c :: cs, us, h => by
    cases us with
    | nil => cases h
    | cons u us =>
      have h : (csB K c u && csBs K cs us) = true := h
      rw [Bool.and_eq_true] at h
      obtain ⟨v, r1, h1⟩ := csB_ok c u h.1
      obtain ⟨vs, r2, h2⟩ := csBs_ok cs us h.2
      exact ⟨v :: vs, .cons r1 r2, fun cA F => ⟨v, vs, rfl, h1 cA F, h2 cA F⟩⟩
end
/-- a def: its name, its text, its slots, which parameters are never stored to -/
structure Df where
  nm : Str
  st : Stmt
  N : List Str
  pins : List Bool
  own : Option Str := none
  dfl : List Cs := []
def Df.ps (d : Df) : List Str := d.N.take d.pins.length
def Df.at_ (d : Df) : Str × Option Str := match d.own with
  | none => (d.nm, none)
  | some C => (C, some d.nm)
def Df.qual (d : Df) : Str := match d.own with
  | none => d.nm
  | some C => C ++ ("." : Str) ++ d.nm
def Df.fa (d : Df) (K : PySem.W.Frag) : Addr := He.fAd K d.at_
structure Pg where
  defs : List Df
  cst : List (Str × Cs)
  tabs : List (Str × List (Str × Int)) := []
  cls : List Cl := []
  xs : List Ex := []
  xn : List Str := []
  file : Str := ""
def fnGl : Nat → List Df → List (Str × GB)
  | _, [] => []
  | i, d :: ds => match d.own with
    | none => (d.nm, .fn i) :: fnGl (i + 1) ds
    | some _ => fnGl (i + 1) ds
def clGl : Nat → List Cl → List (Str × GB)
  | _, [] => []
  | i, C :: cs => (C.nm, .cls i) :: clGl (i + 1) cs
def csGl : List (Str × Cs) → List (Str × GB)
  | [] => []
  | (x, c) :: r => (x, .cst c.d) :: csGl r
def tbGl (ts : List (Str × List (Str × Int))) : List (Str × GB) := ts.map fun t => (t.1, .tab t.2)
def Pg.gl (T : Pg) : List (Str × GB) := fnGl 0 T.defs ++ (csGl T.cst ++ (tbGl T.tabs ++ clGl 0 T.cls))
def Pg.cf (T : Pg) (d : Df) : Cfg := ⟨d.N, defScope d.st, T.gl, T.defs.map (·.pins), d.pins, true, T.cls, T.defs.map fun d => Cs.ds d.dfl, T.xs.map fun e => e.x, T.xn, true, none, true⟩
def Pg.mn (T : Pg) (cal : Nat → List D → CR) (d : Df) : Sl → Fl := match semSs cal 150 (T.cf d) (defBody d.st) with
  | some f => f
  | none => fun _ => .no
def mixC (f g : Nat → List D → CR) (i : Nat) : List D → CR := if Nat.blt i 1000 then f i else g (i - 1000)
/-- what def i answers, k calls deep; and one less deep -/
def Pg.cals (T : Pg) : Nat → (Nat → List D → CR) × (Nat → List D → CR)
  | 0 => (fun _ _ => .no, fun _ _ => .no)
  | k + 1 => (fun i ds => match T.defs[i]? with
    | some d => calOf (T.mn (mixC (T.cals k).1 (T.cals k).2) d) d.N.length d.pins ds
    | none => .no, (T.cals k).1)
def Pg.cal (T : Pg) (k : Nat) : Nat → List D → CR := (T.cals k).1
def Pg.prv (T : Pg) (k : Nat) : Nat → List D → CR := (T.cals k).2
/-- where a parameter's last value stands -/
def dfAd (K : PySem.W.Frag) (p : Str × Option Str) (i : Nat) : Addr := match K.lookup (He.fAd K p) with
  | some ⟨_, _, .func fd, _⟩ => (match fd.defaults with
    | .ref t => (match K.lookup t with
      | some o => (match o.data with
        | .seq its _ => (match its.toList[i]? with
          | some (.ref a) => a
          | _ => 0)
        | _ => 0)
      | none => 0)
    | _ => 0)
  | _ => 0
def dvOf (p : Str × Option Str) (i : Nat) : Cs → He.Dv
  | .int n => .int n
  | .str x => .str x
  | .tup _ => .adr fun K => dfAd K p i
def dvsOf (p : Str × Option Str) : Nat → List Cs → List He.Dv
  | _, [] => []
  | i, c :: cs => dvOf p i c :: dvsOf p (i + 1) cs
def dvB (K : PySem.W.Frag) (p : Str × Option Str) : Nat → List Cs → Bool
  | _, [] => true
  | i, c :: cs => (match c with
    | .tup _ => csB K c (.ref (dfAd K p i))
    | _ => true) && dvB K p (i + 1) cs
def Df.dd (d : Df) : He.DefD := ⟨d.at_, d.nm, d.qual, defArgs d.st, defBody d.st, defScope d.st, dvsOf d.at_ 0 d.dfl, []⟩
def Pg.fn (T : Pg) : List He.DefD := T.defs.map Df.dd
def clFa (C : Cl) : List He.Fa := .glo C.nm :: .cls C.nm :: .mkr C.nm :: ((C.fl.map fun f => .noat C.nm f) ++ C.ms.map fun p => .meth C.nm p.1)
def Pg.fa (T : Pg) : List He.Fa := ((T.defs.filter fun d => d.own.isNone).map fun d => .glo d.nm) ++ (((bltNames.filter fun x => (T.gl.lookup x).isNone).map .free) ++ ((T.tabs.map fun t => .glo t.1) ++ T.cls.flatMap clFa))
/-- the methods are the defs that they are said to be -/
def Pg.isDf (T : Pg) (C m : Str) (j : Nat) : Bool := match T.defs[j]? with
  | some d => decide (d.own = some C) && decide (d.nm = m)
  | none => false
def Pg.clB (T : Pg) : Bool := Nat.ble T.defs.length 1000 && T.cls.all fun C => T.isDf C.nm "__init__" C.init && C.ms.all fun p => T.isDf C.nm p.1 p.2
/-- a table's entries -/
def tabB (K : PySem.W.Frag) (t : Str × List (Str × Int)) : Bool := match K.lookup (He.ga K t.1) with
  | some ⟨_, _, .dict es _, _⟩ => decide (es.toList.map entB = t.2.map some)
  | _ => false
def Pg.ts (T : Pg) : List He.Tab := T.tabs.map fun t => (fun K => He.ga K t.1, t.2.map (·.1))
/-- the classes' addresses -/
def exAt (xs : List Ex) (c : Nat) (K : PySem.W.Frag) : Addr := match xs with
  | [] => 0
  | e :: r => if Nat.beq e.x.ix c then e.C K else exAt r c K
def Pg.adr (T : Pg) (K : PySem.W.Frag) (c : Nat) : Addr := match T.cls[c]? with
  | some C => He.ga K C.nm
  | none => exAt T.xs c K
def Pg.xB (T : Pg) (K : PySem.W.Frag) : Bool := (T.xs.all fun e => exB K T.file e && (decide (T.adr K e.x.ix = e.C K) && decide (PySem.W.nsIn K mainGlobals e.x.nm = some (some (.ref (e.C K)))))) && T.xn.all fun x => xnB' K T.xs x
def isFld (o : Obj) : Bool := match o.data with
  | .fields _ => true
  | _ => false
/-- what the objects of these addresses name (not what a code's fields name) -/
def refsL (g : Addr → Option Obj) (as : List Addr) : List Addr := (as.flatMap fun a => match g a with
  | some o => if isFld o then [] else He.refsD o
  | none => []).eraseDups
def memN (a : Nat) : List Nat → Bool
  | [] => false
  | b :: l => if Nat.beq a b then true else memN a l
/-- step by step, each address once -/
def bfs (g : Addr → Option Obj) : Nat → List Addr → List Addr → List Addr
  | 0, _, _ => []
  | n + 1, seen, fr => (fun new => new ++ bfs g n (new ++ seen) new) ((refsL g fr).filter fun a => !(memN a seen))
def Pg.asL (T : Pg) (g : Addr → Option Obj) (n : Nat) : List Addr := (fun as => mainGlobals :: (as ++ (cStatics :: cellsG g as))) (bfs g n [mainGlobals] [mainGlobals])
/-- what the head looks at -/
def Pg.ext (T : Pg) (K : PySem.W.Frag) : Bool := ((T.cst.all (csOk K) && T.tabs.all (tabB K)) && (T.clB && T.defs.all fun d => dvB K d.at_ 0 d.dfl)) && T.xB K
def Pg.hook (T : Pg) (n : Nat) : PySem.W.Hook where
  α := He.AlT × (Bool × List XnW)
  obs := fun s => (He.obsT T.fa T.fn T.ts (He.frG s.heap.get? (T.asL s.heap.get? n)), T.ext (He.frG s.heap.get? (T.asL s.heap.get? n)), T.xs.map (xnW (He.frG s.heap.get? (T.asL s.heap.get? n))))
  val := fun w => (He.valT T.fn T.ts w, true, T.xs.map Ex.val)
  says := fun w h => ∃ K : PySem.W.Frag, K.In h ∧ He.SaysT T.fa T.fn T.ts w K ∧ T.ext K = true ∧ T.xs.map (xnW K) = T.xs.map Ex.val
  of := fun _ _ e => ⟨_, He.frG_in, congrArg Prod.fst e, congrArg (fun z => z.2.1) e, congrArg (fun z => z.2.2) e⟩
  keeps := fun _ _ _ ⟨K, hK, c⟩ k => ⟨K, PySem.W.Frag.In.keeps hK k, c⟩
def Pg.look (T : Pg) (n : Nat) (g : Addr → Option Obj) : He.AlT × (Bool × List XnW) := (He.obsT T.fa T.fn T.ts (He.frG g (T.asL g n)), T.ext (He.frG g (T.asL g n)), T.xs.map (xnW (He.frG g (T.asL g n))))
theorem Pg.look_eq {T : Pg} {n : Nat} {g : Addr → Option Obj} {s : Shared} (h : ∀ a, g a = s.heap.get? a) : T.look n g = (T.hook n).obs s := by
  have e : g = s.heap.get? := funext h
  rw [e]
  rfl
structure DfOk (d : Df) : Prop where
  sc : FnScope d.N d.ps (defScope d.st)
  bd : d.dfl = [] → ∀ (kV doc pm : Value) (an : Option Addr) (cdv ct : Value) (us : List Value), us.length = d.ps.length → bindArgs (PySem.W.fnOf d.nm d.qual (defArgs d.st) (defBody d.st) (defScope d.st) .none kV doc pm an cdv ct) ⟨us, []⟩ = pure (d.ps.zip us)
  len : d.ps.length = d.pins.length
  le : d.dfl.length ≤ d.ps.length
  bd1 : d.dfl ≠ [] → ∀ j, j ≤ d.dfl.length → ∀ (t : Addr) (kV doc pm : Value) (an : Option Addr) (cdv ct : Value) (us its : List Value), us.length = d.ps.length - (d.dfl.length - j) → its.length = d.dfl.length →
    ∃ k, bindArgs (PySem.W.fnOf d.nm d.qual (defArgs d.st) (defBody d.st) (defScope d.st) (.ref t) kV doc pm an cdv ct) ⟨us, []⟩ = (seqItems? (.ref t) >>= k) ∧ k (some its.toArray) = pure (d.ps.zip (us ++ its.drop j))
section
variable {T : Pg} {P : Program} {w : World} {K : PySem.W.Frag} {mg : Str → Option Value} {base : Heap} {cA : Nat → Addr}
theorem fnGl_ex : ∀ {ds : List Df} {j : Nat} {x : Str} {b : GB}, (fnGl j ds).lookup x = some b → ∃ i d, b = .fn i ∧ j ≤ i ∧ ds[i - j]? = some d ∧ d.nm = x ∧ d.own = none
  | [], j, x, b, h => by cases h
  | d :: ds, j, x, b, h => by
    have rest : (fnGl (j + 1) ds).lookup x = some b → ∃ i e, b = .fn i ∧ j ≤ i ∧ (d :: ds)[i - j]? = some e ∧ e.nm = x ∧ e.own = none := fun h => by
      obtain ⟨i, d', h1, h2, h3, h4⟩ := fnGl_ex h
      refine ⟨i, d', h1, by omega, ?_, h4⟩
      rw [show i - j = (i - (j + 1)) + 1 by omega, List.getElem?_cons_succ]
      exact h3
    unfold fnGl at h
    split at h
    · rename_i ho
      rw [List.lookup_cons] at h
      split at h
      · rename_i e
        cases h
        exact ⟨j, d, rfl, Nat.le_refl _, by rw [Nat.sub_self]; rfl, (beq_iff_eq.mp e).symm, ho⟩
      · exact rest h
    · exact rest h
theorem clGl_ex : ∀ {cs : List Cl} {j : Nat} {x : Str} {b : GB}, (clGl j cs).lookup x = some b → ∃ i C, b = .cls i ∧ j ≤ i ∧ cs[i - j]? = some C ∧ C.nm = x
  | [], j, x, b, h => by cases h
  | C :: cs, j, x, b, h => by
    unfold clGl at h
    rw [List.lookup_cons] at h
    split at h
    · rename_i e
      cases h
      exact ⟨j, C, rfl, Nat.le_refl _, by rw [Nat.sub_self]; rfl, (beq_iff_eq.mp e).symm⟩
    · obtain ⟨i, d', h1, h2, h3, h4⟩ := clGl_ex h
      refine ⟨i, d', h1, by omega, ?_, h4⟩
      rw [show i - j = (i - (j + 1)) + 1 by omega, List.getElem?_cons_succ]
      exact h3
theorem csGl_ex : ∀ {cs : List (Str × Cs)} {x : Str} {b : GB}, (csGl cs).lookup x = some b → ∃ c, b = .cst c.d ∧ (x, c) ∈ cs
  | [], x, b, h => by cases h
  | (y, c) :: r, x, b, h => by
    unfold csGl at h
    rw [List.lookup_cons] at h
    split at h
    · rename_i e
      cases h
      cases beq_iff_eq.mp e
      exact ⟨c, rfl, by simp⟩
    · obtain ⟨c', h1, h2⟩ := csGl_ex h
      exact ⟨c', h1, List.mem_cons_of_mem _ h2⟩
theorem lookup_app {α β : Type} [BEq α] : ∀ {l m : List (α × β)} {x : α}, (l ++ m).lookup x = (l.lookup x).or (m.lookup x)
  | [], m, x => rfl
  | (y, b) :: l, m, x => by
    rw [List.cons_append, List.lookup_cons, List.lookup_cons]
    split
    · rfl
    · exact lookup_app
theorem tbGl_some : ∀ {ts : List (Str × List (Str × Int))} {x : Str} {b : GB}, (tbGl ts).lookup x = some b → ∃ tb, (x, tb) ∈ ts ∧ b = .tab tb
  | [], x, b, h => by cases h
  | (y, c) :: r, x, b, h => by
    unfold tbGl at h
    rw [List.map_cons, List.lookup_cons] at h
    split at h
    · rename_i e
      cases h
      cases beq_iff_eq.mp e
      exact ⟨c, by simp, rfl⟩
    · obtain ⟨c', h1, h2⟩ := tbGl_some (ts := r) h
      exact ⟨c', List.mem_cons_of_mem _ h1, h2⟩
/-- where a name's meaning comes from -/
theorem Pg.gl_cases {x : Str} {b : GB} (h : T.gl.lookup x = some b) : (∃ i d, b = .fn i ∧ T.defs[i]? = some d ∧ d.nm = x ∧ d.own = none) ∨ (∃ c, b = .cst c.d ∧ (x, c) ∈ T.cst) ∨ (∃ tb, (x, tb) ∈ T.tabs ∧ b = .tab tb) ∨ ∃ i C, b = .cls i ∧ T.cls[i]? = some C ∧ C.nm = x := by
  unfold Pg.gl at h
  rw [lookup_app, lookup_app, lookup_app] at h
  cases e : (fnGl 0 T.defs).lookup x with
  | some g =>
    rw [e] at h
    have h : some g = some b := h
    cases h
    obtain ⟨i, d, h1, _, h2, h3⟩ := fnGl_ex e
    rw [Nat.sub_zero] at h2
    exact .inl ⟨i, d, h1, h2, h3⟩
  | none =>
    rw [e] at h
    have h : ((csGl T.cst).lookup x).or (((tbGl T.tabs).lookup x).or ((clGl 0 T.cls).lookup x)) = some b := h
    cases e2 : (csGl T.cst).lookup x with
    | some g =>
      rw [e2] at h
      have h : some g = some b := h
      cases h
      exact .inr (.inl (csGl_ex e2))
    | none =>
      rw [e2] at h
      have h : ((tbGl T.tabs).lookup x).or ((clGl 0 T.cls).lookup x) = some b := h
      cases e3 : (tbGl T.tabs).lookup x with
      | some g =>
        rw [e3] at h
        have h : some g = some b := h
        cases h
        exact .inr (.inr (.inl (tbGl_some e3)))
      | none =>
        rw [e3] at h
        have h : (clGl 0 T.cls).lookup x = some b := h
        obtain ⟨i, C, h1, _, h2, h3⟩ := clGl_ex h
        rw [Nat.sub_zero] at h2
        exact .inr (.inr (.inr ⟨i, C, h1, h2, h3⟩))
theorem Pg.gl_fn {x : Str} {i : Nat} (h : T.gl.lookup x = some (.fn i)) : ∃ d, T.defs[i]? = some d ∧ d.nm = x ∧ d.own = none := by
  rcases Pg.gl_cases h with ⟨i, d, e, hd⟩ | ⟨_, e, _⟩ | ⟨_, _, e⟩ | ⟨_, _, e, _⟩ <;> cases e
  exact ⟨d, hd⟩
theorem Pg.gl_cst {x : Str} {d : D} (h : T.gl.lookup x = some (.cst d)) : ∃ c, (x, c) ∈ T.cst ∧ d = c.d := by
  rcases Pg.gl_cases h with ⟨i, d, e, _⟩ | ⟨c, e, hc⟩ | ⟨_, _, e⟩ | ⟨_, _, e, _⟩ <;> cases e
  exact ⟨c, hc, rfl⟩
theorem Pg.gl_tab {x : Str} {tb : List (Str × Int)} (h : T.gl.lookup x = some (.tab tb)) : (x, tb) ∈ T.tabs := by
  rcases Pg.gl_cases h with ⟨i, d, e, _⟩ | ⟨c, e, _⟩ | ⟨_, ht, e⟩ | ⟨_, _, e, _⟩ <;> cases e
  exact ht
theorem Pg.gl_cls {x : Str} {c : Nat} (h : T.gl.lookup x = some (.cls c)) : ∃ C, T.cls[c]? = some C ∧ C.nm = x := by
  rcases Pg.gl_cases h with ⟨i, d, e, _⟩ | ⟨c, e, _⟩ | ⟨_, _, e⟩ | ⟨_, C, e, hC⟩ <;> cases e
  exact ⟨C, hC⟩
/-- what is known of the module -/
structure PgOk (T : Pg) (P : Program) (K : PySem.W.Frag) (w : World) (mg : Str → Option Value) : Prop where
  df : ∀ d ∈ T.defs, DfOk d
  fn : ∀ d ∈ T.defs, ∃ fd, FunD K d.nm d.qual (defArgs d.st) (defBody d.st) (defScope d.st) (He.DefD.dvs K d.dd) [] (d.fa K) fd
  dv : ∀ d ∈ T.defs, ∀ cA F, RepFs K cA F (Cs.ds d.dfl) (He.DefD.dvs K d.dd)
  nm : ∀ d ∈ T.defs, d.own = none → mg d.nm = some (.ref (He.ga K d.nm))
  cst : ∀ x c, (x, c) ∈ T.cst → ∃ v u, mg x = some u ∧ RelV v u ∧ ∀ (cA : Nat → Addr) F, RepF K cA F c.d v
  blt : ∀ x, T.gl.lookup x = none → x ∈ bltNames → mg x = none
  tab : ∀ x tb, (x, tb) ∈ T.tabs → mg x = some (.ref (He.ga K x)) ∧ ∃ es n, KDict K w (He.ga K x) es n ∧ es.toList.map entB = tb.map some
  clg : ∀ C ∈ T.cls, mg C.nm = some (.ref (He.ga K C.nm)) ∧ Cls K (He.ga K C.nm) ∧ Mk K (He.ga K C.nm) (He.fAd K (C.nm, some "__init__"))
  cln : ∀ C ∈ T.cls, ∀ f ∈ C.fl, NoAttr K (He.ga K C.nm) f
  clm : ∀ C ∈ T.cls, ∀ p ∈ C.ms, Meth K (He.ga K C.nm) p.1 (He.fAd K (C.nm, some p.1))
  cli : ∀ C ∈ T.cls, ∃ d, T.defs[C.init]? = some d ∧ d.own = some C.nm ∧ d.nm = "__init__"
  clj : ∀ C ∈ T.cls, ∀ p ∈ C.ms, ∃ d, T.defs[p.2]? = some d ∧ d.own = some C.nm ∧ d.nm = p.1
  few : T.defs.length ≤ 1000
  xcl : ∀ e ∈ T.xs, (NX.ExTxt P K (e.C K) (e.fI K) e.x.fl ∧ XkC K (e.C K) ∧ PySem.W.findIn K (.ref (e.C K)) e.x.fl = some none) ∧ T.adr K e.x.ix = e.C K ∧ mg e.x.nm = some (.ref (e.C K))
  xnm : ∀ x ∈ T.xn, ∃ cv, clsV cv = true ∧ (mg x = some cv ∨ (mg x = none ∧ bootBuiltins x = some cv ∧ x ≠ "__name__")) ∧ ∀ e ∈ T.xs, PySem.W.exmOne K (.ref (e.C K)) cv = some (e.x.anc.contains x) ∧ PySem.W.kitOne K (.ref (e.C K)) cv = some (e.x.anc.contains x)
theorem Pg.isDf_ok {C m : Str} {j : Nat} (h : T.isDf C m j = true) : ∃ d, T.defs[j]? = some d ∧ d.own = some C ∧ d.nm = m := by
  unfold Pg.isDf at h
  split at h
  · rename_i d hd
    rw [Bool.and_eq_true] at h
    exact ⟨d, hd, of_decide_eq_true h.1, of_decide_eq_true h.2⟩
  · cases h
theorem dvs_ok {p : Str × Option Str} : ∀ {i : Nat} {cs : List Cs}, dvB K p i cs = true → ∀ cA F, RepFs K cA F (Cs.ds cs) ((dvsOf p i cs).map (He.Dv.v K))
  | i, [], _, cA, F => rfl
  | i, c :: cs, h, cA, F => by
    unfold dvB at h
    rw [Bool.and_eq_true] at h
    refine ⟨_, _, rfl, ?_, dvs_ok h.2 cA F⟩
    cases c with
    | int n => rfl
    | str x => rfl
    | tup xs =>
      obtain ⟨v, r, q⟩ := csB_ok _ _ h.1
      have e : v = .ref (dfAd K p i) := by
        cases v <;> try (cases r; done)
        all_goals first | (have r : Value.ref (dfAd K p i) = _ := r; cases r; rfl) | (obtain ⟨_, r⟩ := r; cases r)
      rw [e] at q
      exact q cA F
theorem Pg.ok_of {h : Heap} (df : ∀ d ∈ T.defs, DfOk d) (X : K.In h) (G : h.Ns mainGlobals mg) (ct : He.SaysT T.fa T.fn T.ts w K) (ce : T.ext K = true) (cx : T.xs.map (xnW K) = T.xs.map Ex.val) (hx : ∀ e ∈ T.xs, ExOk e) (hP : T.xs ≠ [] → P.main.file = T.file ∧ (P.main.scope.names.lookup ("super" : Str)).isSome = false) : PgOk T P K w mg := by
  have c := ct.d
  have fact : ∀ f ∈ T.fa, f.ok K = true := fun f hf => by
    obtain ⟨i, hi⟩ := List.mem_iff_getElem?.mp hf
    exact c.fact i hi
  unfold Pg.ext at ce
  rw [Bool.and_eq_true, Bool.and_eq_true, Bool.and_eq_true, Bool.and_eq_true] at ce
  obtain ⟨⟨⟨ce1, ce2⟩, ce3, ce4⟩, ce5⟩ := ce
  unfold Pg.xB at ce5
  rw [Bool.and_eq_true] at ce5
  obtain ⟨ce5, ce6⟩ := ce5
  unfold Pg.clB at ce3
  rw [Bool.and_eq_true] at ce3
  obtain ⟨cef, ce3⟩ := ce3
  have fcl : ∀ C ∈ T.cls, ∀ f ∈ clFa C, f.ok K = true := fun C hC f hf => fact f (List.mem_append_right _ (List.mem_append_right _ (List.mem_append_right _ (List.mem_flatMap.mpr ⟨C, hC, hf⟩))))
  have hcl : ∀ C ∈ T.cls, T.isDf C.nm "__init__" C.init = true ∧ ∀ p ∈ C.ms, T.isDf C.nm p.1 p.2 = true := fun C hC => by
    have z := List.all_eq_true.mp ce3 C hC
    rw [Bool.and_eq_true] at z
    exact ⟨z.1, fun p hp => List.all_eq_true.mp z.2 p hp⟩
  refine ⟨df, fun d hd => ?_, fun d hd cA F => ?_, fun d hd ho => ?_, fun x cs hx => ?_, fun x hl hb => ?_, fun x tb hx => ?_, fun C hC => ⟨?_, ?_, ?_⟩, fun C hC f hf => ?_, fun C hC p hp => ?_, fun C hC => Pg.isDf_ok (hcl C hC).1, fun C hC p hp => Pg.isDf_ok ((hcl C hC).2 p hp), Nat.le_of_ble_eq_true cef, fun e he => ?_, fun x hx => xnB'_ok X G (List.all_eq_true.mp ce6 x hx)⟩
  · obtain ⟨i, hi⟩ := List.mem_iff_getElem?.mp (List.mem_map_of_mem (f := Df.dd) hd)
    exact c.def_ i hi
  · exact dvs_ok (List.all_eq_true.mp ce4 d hd) cA F
  · exact He.glo_ok X G (fact _ (List.mem_append_left _ (List.mem_map_of_mem (f := fun d : Df => He.Fa.glo d.nm) (List.mem_filter.mpr ⟨hd, by rw [ho]; rfl⟩))))
  · have z := List.all_eq_true.mp ce1 _ hx
    unfold csOk at z
    split at z
    · rename_i u hu
      obtain ⟨v, r, h⟩ := csB_ok cs u z
      exact ⟨v, u, PySem.W.mg_of X G hu, r, h⟩
    · cases z
  · refine He.free_ok X G (fact _ (List.mem_append_right _ (List.mem_append_left _ (List.mem_map_of_mem (List.mem_filter.mpr ⟨hb, ?_⟩)))))
    rw [hl]
    rfl
  · have hg := He.glo_ok X G (fact _ (List.mem_append_right _ (List.mem_append_right _ (List.mem_append_left _ (List.mem_map_of_mem (f := fun t : Str × List (Str × Int) => He.Fa.glo t.1) hx)))))
    refine ⟨hg, ?_⟩
    have z := List.all_eq_true.mp ce2 _ hx
    obtain ⟨i, hi⟩ := List.mem_iff_getElem?.mp (List.mem_map_of_mem (f := fun t : Str × List (Str × Int) => ((fun K => He.ga K t.1, t.2.map (·.1)) : He.Tab)) hx)
    obtain ⟨es, n, D⟩ := ct.tab i hi
    refine ⟨es, n, D, ?_⟩
    unfold tabB at z
    rw [show K.lookup (He.ga K (x, tb).1) = _ from D.at_] at z
    exact of_decide_eq_true z
  · exact He.glo_ok X G (fcl C hC _ (by simp [clFa]))
  · exact He.cls_ok (fcl C hC _ (by simp [clFa]))
  · exact He.mkr_ok (fcl C hC _ (by simp [clFa]))
  · exact He.noat_ok (fcl C hC (.noat C.nm f) (by simp [clFa, hf]))
  · exact He.meth_ok (fcl C hC (.meth C.nm p.1) (by
      refine List.mem_cons_of_mem _ (List.mem_cons_of_mem _ (List.mem_cons_of_mem _ (List.mem_append_right _ ?_)))
      exact List.mem_map_of_mem (f := fun p : Str × Nat => He.Fa.meth C.nm p.1) hp))
  · have z := List.all_eq_true.mp ce5 e he
    rw [Bool.and_eq_true, Bool.and_eq_true] at z
    obtain ⟨z1, z2, z3⟩ := z
    obtain ⟨p1, p2⟩ := hP (fun z => by rw [z] at he; cases he)
    have hw : xnW K e = e.val := by
      obtain ⟨i, hi⟩ := List.mem_iff_getElem?.mp he
      have := congrArg (fun l : List XnW => l[i]?) cx
      simp only [List.getElem?_map, hi, Option.map_some, Option.some.injEq] at this
      exact this
    exact ⟨exB_ok (hx e he) z1 hw p1 p2, of_decide_eq_true z2, PySem.W.mg_of X G (of_decide_eq_true z3)⟩
theorem sss_no {X : Cx} {W : Gx} {st : List Stmt} : SSs X cA W st (fun _ => .no) := ⟨fun _ _ _ _ _ _ h => by
  obtain ⟨F, fp, s, r, p⟩ := h
  exact p.elim⟩
theorem no_ok {fa : Addr} {fd : FuncData} {ps : List Str} {pins : List Bool} {k : Nat} : FnOk P w K mg base (L2N.CX P w) k fa fd ps (spF K cA (fun _ => .no) pins) := by
  refine ⟨fun vs H Q E h => ?_, fun A outer s H args us vs Q E hr e0 hb r h => ?_⟩
  · obtain ⟨_, _, _, _, _, _, p⟩ := h; exact p.elim
  · obtain ⟨_, _, _, _, _, _, p⟩ := h; exact p.elim
/-- a def with some of its parameters left out -/
theorem dfl_ok {X : Cx} {cA : Nat → Addr} {d : Df} {fd : FuncData} {k : Nat} {cal : List D → CR} (D0 : DfOk d) (F : FunD X.K d.nm d.qual (defArgs d.st) (defBody d.st) (defScope d.st) (He.DefD.dvs X.K d.dd) [] (d.fa X.K) fd) (hv : ∀ cA F, RepFs X.K cA F (Cs.ds d.dfl) (He.DefD.dvs X.K d.dd)) (Fk : FnOk X.prog X.w X.K X.mg X.base (L2N.CX X.prog X.w) k (d.fa X.K) fd d.ps (spF X.K cA cal d.pins)) (q : Nat) : Dfl X cA k (d.fa X.K) cal d.pins ((Cs.ds d.dfl).drop q) := by
  have ow : ∀ x ∈ (Cs.ds d.dfl).drop q, x.own = false := fun x hx => by
    have hx := List.mem_of_mem_drop hx
    have : ∀ cs : List Cs, ∀ x ∈ Cs.ds cs, x.own = false := fun cs => by
      induction cs with
      | nil => intro x hx; cases hx
      | cons c cs ih =>
        intro x hx
        rcases List.mem_cons.mp hx with rfl | hx
        · cases c <;> rfl
        · exact ih x hx
    exact this _ x hx
  have dl : ∀ cs : List Cs, (Cs.ds cs).length = cs.length := fun cs => by
    induction cs with
    | nil => rfl
    | cons c cs ih => rw [Cs.ds, List.length_cons, List.length_cons, ih]
  by_cases h0 : d.dfl = []
  · have e1 : He.DefD.dvs X.K d.dd = [] := by
      unfold He.DefD.dvs Df.dd
      rw [h0]
      rfl
    have e2 : (Cs.ds d.dfl).drop q = [] := by rw [h0]; exact List.drop_nil
    rw [e1] at F
    refine ⟨⟨fd, d.ps, [], [], Fk, F.bindsN (D0.bd h0), .nil, fun F => ?_⟩, ow⟩
    rw [e2]
    rfl
  · have hlen : (He.DefD.dvs X.K d.dd).length = d.dfl.length := by rw [← (hv cA (fun _ => none)).length, dl]
    have hne : He.DefD.dvs X.K d.dd ≠ [] := fun z => h0 (List.eq_nil_of_length_eq_zero (by rw [← hlen, z]; rfl))
    generalize hj : min q d.dfl.length = j
    have hjl : j ≤ d.dfl.length := by omega
    obtain ⟨ds, h1, h2⟩ := F.binds1 (ps := d.ps) (d.ps.length - (d.dfl.length - j)) j hne (by rw [hlen]; have := D0.le; omega) (fun t kV doc pm an cdv ct us its h1 h2 => D0.bd1 h0 j hjl t kV doc pm an cdv ct us its h1 (by rw [h2, hlen]))
    have e3 : (Cs.ds d.dfl).drop q = (Cs.ds d.dfl).drop j := by
      by_cases hq : q ≤ d.dfl.length
      · rw [show j = q by omega]
      · rw [List.drop_eq_nil_of_le (by rw [dl]; omega), List.drop_eq_nil_of_le (by rw [dl]; omega)]
    refine ⟨⟨fd, d.ps, _, ds, Fk, h2, h1, fun F => ?_⟩, ow⟩
    rw [e3]
    exact RepFs.drop j (hv _ F)
/-- THE THEOREM: each def keeps what cal says -/
theorem Pg.ok2 (G : PgOk T P K w mg) : ∀ (k : Nat), (∀ (i : Nat) (d : Df) (fd : FuncData), T.defs[i]? = some d → FunD K d.nm d.qual (defArgs d.st) (defBody d.st) (defScope d.st) (He.DefD.dvs K d.dd) [] (d.fa K) fd →
    FnOk P w K mg base (L2N.CX P w) (k + 1) (d.fa K) fd d.ps (spF K (T.adr K) (T.cal k i) d.pins)) ∧ (∀ (i : Nat) (d : Df) (fd : FuncData), T.defs[i]? = some d → FunD K d.nm d.qual (defArgs d.st) (defBody d.st) (defScope d.st) (He.DefD.dvs K d.dd) [] (d.fa K) fd →
    FnOk P w K mg base (L2N.CX P w) k (d.fa K) fd d.ps (spF K (T.adr K) (T.prv k i) d.pins))
  | 0 => ⟨fun i d fd hd F => no_ok, fun i d fd hd F => no_ok⟩
  | k + 1 => by
    obtain ⟨IH1, IH2⟩ := Pg.ok2 G k
    refine ⟨fun i d fd hd F => ?_, fun i d fd hd F => IH1 i d fd hd F⟩
    have hm : d ∈ T.defs := List.mem_of_getElem? hd
    obtain ⟨oc, od, dV, kV, doc, pm, an, cdv, ct, osl, rfl, lk, hcd, _, _⟩ := F.ex
    have D0 := G.df d hm
    have e : T.cal (k + 1) i = calOf (T.mn (mixC (T.cal k) (T.prv k)) d) d.N.length d.pins := by
      funext ds
      show (match T.defs[i]? with
        | some d => calOf (T.mn (mixC (T.cals k).1 (T.cals k).2) d) d.N.length d.pins ds
        | none => .no) = _
      rw [hd]
      rfl
    rw [e]
    refine fn_ok lk hcd D0.sc D0.len fun A outer s H E W hr tk hp => ?_
    unfold Pg.mn
    split
    · rename_i f hf
      have up1 : ∀ {j : Nat} {x : Df}, T.defs[j]? = some x → mixC (T.cal k) (T.prv k) j = T.cal k j := fun {j x} h => by
        have hj : j < 1000 := Nat.lt_of_lt_of_le (List.getElem?_eq_some_iff.mp h).1 G.few
        unfold mixC
        rw [if_pos (by rw [Nat.blt_eq]; exact hj)]
      have up2 : ∀ j : Nat, mixC (T.cal k) (T.prv k) (1000 + j) = T.prv k j := fun j => by
        unfold mixC
        rw [if_neg (by rw [Nat.blt_eq]; omega), Nat.add_sub_cancel_left]
      have pin : ∀ {j : Nat} {x : Df} {pins : List Bool}, T.defs[j]? = some x → (T.defs.map (·.pins))[j]? = some pins → pins = x.pins := fun {j x pins} h h2 => by
        rw [List.getElem?_map, h] at h2
        exact (Option.some.inj h2).symm
      have dds : ∀ {j : Nat} {x : Df} {dd : List D}, T.defs[j]? = some x → (T.defs.map fun d => Cs.ds d.dfl)[j]? = some dd → dd = Cs.ds x.dfl := fun {j x dd} h h2 => by
        rw [List.getElem?_map, h] at h2
        exact (Option.some.inj h2).symm
      have adr : ∀ {c : Nat} {C : Cl}, T.cls[c]? = some C → T.adr K c = He.ga K C.nm := fun {c C} h => by
        unfold Pg.adr
        rw [h]
      have hfa : ∀ {x : Df}, x.own = none → x.fa K = He.ga K x.nm := fun {x} h => by
        unfold Df.fa Df.at_
        rw [h]
        rfl
      have hfm : ∀ {x : Df} {C : Str}, x.own = some C → x.fa K = He.fAd K (C, some x.nm) := fun {x C} h => by
        unfold Df.fa Df.at_
        rw [h]
      refine (snds 150).ss _ W (T.cf d) _ f ?_ hf
      refine ⟨rfl, D0.sc.nd, rfl, fun _ => rfl, fun x d' h => ?_, fun x j pins h1 h2 => ?_, fun x h hb => G.blt x h hb, fun x tb h => ?_, fun _ => tk, paC tk, hp, fun _ => ⟨passes_of rfl, fun _ => rfl⟩, fun _ => ⟨rfl, rfl⟩, fun e he => ?_, fun x hx => ?_, fun _ _ => hr.mono (Nat.zero_le _), (fun _ _ _ h => by cases h), ?_, fun x j pins dd q h1 h2 h3 => ?_, fun c f h => ?_, fun c C m j pins dd q h1 h2 h3 h4 => ?_, fun x c C pins dd q h1 h2 h3 h4 => ?_⟩
      · obtain ⟨c, hc, rfl⟩ := Pg.gl_cst h
        obtain ⟨v, u, h1, h2, h3⟩ := G.cst x c hc
        exact ⟨v, u, h1, h2, by cases c <;> rfl, h3 _ _⟩
      · obtain ⟨d', hd', hx, ho⟩ := Pg.gl_fn h1
        have hm' : d' ∈ T.defs := List.mem_of_getElem? hd'
        obtain ⟨fd', F'⟩ := G.fn d' hm'
        have e2 := pin hd' h2
        subst e2
        subst hx
        rw [up1 hd']
        have Fk := IH1 j d' fd' hd' F'
        have hD := dfl_ok (X := cxOf (L2N.CX P w) P w K mg base d.N d.qual (defScope d.st) (d.fa K) cdv A outer s H E) (G.df d' hm') F' (G.dv d' hm') Fk ((Cs.ds d'.dfl).length)
        have nn : mg d'.nm = some (.ref (d'.fa K)) := by rw [hfa ho]; exact G.nm d' hm' ho
        by_cases h0 : d'.dfl = []
        · have e1 : He.DefD.dvs K d'.dd = [] := by
            unfold He.DefD.dvs Df.dd
            rw [h0]
            rfl
          rw [e1] at F'
          exact ⟨k + 1, d'.fa K, fd', d'.ps, Fk, hr, nn, F'.kp, F'.bindsN ((G.df d' hm').bd h0)⟩
        · have hlen : (He.DefD.dvs K d'.dd).length = d'.dfl.length := by
            have dl : ∀ cs : List Cs, (Cs.ds cs).length = cs.length := fun cs => by
              induction cs with
              | nil => rfl
              | cons c cs ih => rw [Cs.ds, List.length_cons, List.length_cons, ih]
            rw [← (G.dv d' hm' (T.adr K) (fun _ => none)).length, dl]
          have hne : He.DefD.dvs K d'.dd ≠ [] := fun z => h0 (List.eq_nil_of_length_eq_zero (by rw [← hlen, z]; rfl))
          obtain ⟨ds, h1, h2⟩ := F'.binds1 (ps := d'.ps) d'.ps.length d'.dfl.length hne (by rw [hlen]; omega) (fun t kV doc pm an cdv ct us its h1 h2 => (G.df d' hm').bd1 h0 d'.dfl.length (Nat.le_refl _) t kV doc pm an cdv ct us its (by rw [h1]; omega) (by rw [h2, hlen]))
          have hds : ds = [] := by
            rw [List.drop_eq_nil_of_le (by omega)] at h1
            have := Vals.length h1
            exact List.eq_nil_of_length_eq_zero this.symm
          rw [hds] at h2
          exact ⟨k + 1, d'.fa K, fd', d'.ps, Fk, hr, nn, F'.kp, h2⟩
      · obtain ⟨h1, es, n, h2, h3⟩ := G.tab x tb (Pg.gl_tab h)
        exact ⟨_, h1, ⟨es, n, h2, h3⟩⟩
      · obtain ⟨e0, he0, rfl⟩ := List.mem_map.mp he
        obtain ⟨⟨x1, x2, x3⟩, x4, x5⟩ := G.xcl e0 he0
        show XkC K (T.adr K e0.x.ix) ∧ PySem.W.findIn K (.ref (T.adr K e0.x.ix)) e0.x.fl = some none ∧ ∃ fI, NX.ExTxt P K (T.adr K e0.x.ix) fI e0.x.fl ∧ mg e0.x.nm = some (.ref (T.adr K e0.x.ix))
        rw [x4]
        exact ⟨x2, x3, _, x1, x5⟩
      · obtain ⟨cv, x1, x2, x3⟩ := G.xnm x hx
        refine ⟨cv, x1, x2, fun e he => ?_⟩
        obtain ⟨e0, he0, rfl⟩ := List.mem_map.mp he
        have x4 := (G.xcl e0 he0).2.1
        show PySem.W.exmOne K (.ref (T.adr K e0.x.ix)) cv = _ ∧ PySem.W.kitOne K (.ref (T.adr K e0.x.ix)) cv = _
        rw [x4]
        exact x3 e0 he0
      · have := hr.un
        exact (show (A.deeper (envOfC d.qual (defScope d.st) s.heap.objs.size (d.fa K) cdv)).units + 130 < cLine by omega)
      · obtain ⟨d', hd', hx, ho⟩ := Pg.gl_fn h1
        have hm' : d' ∈ T.defs := List.mem_of_getElem? hd'
        obtain ⟨fd', F'⟩ := G.fn d' hm'
        have e2 := pin hd' h2
        have e3 := dds hd' h3
        subst e2 e3
        subst hx
        rw [up1 hd']
        exact ⟨k + 1, d'.fa K, dfl_ok (G.df d' hm') F' (G.dv d' hm') (IH1 j d' fd' hd' F') q, hr, by rw [hfa ho]; exact G.nm d' hm' ho, F'.kp⟩
      · have h : clOk T.cls c f = true := h
        unfold clOk flT at h
        split at h
        · rename_i fl hfl
          rw [List.getElem?_map] at hfl
          obtain ⟨C, hC, rfl⟩ := Option.map_eq_some_iff.mp hfl
          have hm' : C ∈ T.cls := List.mem_of_getElem? hC
          refine ⟨?_, ?_⟩
          · show Cls K (T.adr K c)
            rw [adr hC]
            exact (G.clg C hm').2.1
          · show NoAttr K (T.adr K c) f
            rw [adr hC]
            exact G.cln C hm' f (by simpa using h)
        · cases h
      · have h1 : T.cls[c]? = some C := h1
        have hC : C ∈ T.cls := List.mem_of_getElem? h1
        have hp' : (m, j) ∈ C.ms := by
          have key : ∀ l : List (Str × Nat), l.lookup m = some j → (m, j) ∈ l := fun l => by
            induction l with
            | nil => intro h; cases h
            | cons p l ih =>
              intro h
              obtain ⟨y, i⟩ := p
              rw [List.lookup_cons] at h
              split at h
              · rename_i e
                cases h
                rw [beq_iff_eq.mp e]
                exact List.mem_cons_self ..
              · exact List.mem_cons_of_mem _ (ih h)
          exact key _ h2
        obtain ⟨d', hd', ho, hn⟩ := G.clj C hC _ hp'
        have hm' : d' ∈ T.defs := List.mem_of_getElem? hd'
        obtain ⟨fd', F'⟩ := G.fn d' hm'
        have e2 := pin hd' h3
        have e3 := dds hd' h4
        subst e2 e3
        rw [up1 hd']
        have hM := G.clm C hC _ hp'
        have ef : d'.fa K = He.fAd K (C.nm, some m) := by rw [hfm ho, hn]
        refine ⟨k + 1, d'.fa K, ?_, ?_, dfl_ok (G.df d' hm') F' (G.dv d' hm') (IH1 j d' fd' hd' F') q, hr⟩
        · show Cls K (T.adr K c)
          rw [adr h1]
          exact (G.clg C hC).2.1
        · show Meth K (T.adr K c) m (d'.fa K)
          rw [adr h1, ef]
          exact hM
      · have h2 : T.cls[c]? = some C := h2
        have hC : C ∈ T.cls := List.mem_of_getElem? h2
        obtain ⟨D, hD, hx⟩ := Pg.gl_cls h1
        rw [h2] at hD
        cases hD
        obtain ⟨d', hd', ho, hn⟩ := G.cli C hC
        have hm' : d' ∈ T.defs := List.mem_of_getElem? hd'
        obtain ⟨fd', F'⟩ := G.fn d' hm'
        have e2 := pin hd' h3
        have e3 := dds hd' h4
        subst e2 e3
        rw [up2]
        have ef : d'.fa K = He.fAd K (C.nm, some "__init__") := by rw [hfm ho, hn]
        refine ⟨k, d'.fa K, ?_, dfl_ok (G.df d' hm') F' (G.dv d' hm') (IH2 C.init d' fd' hd' F') q, hr, ?_⟩
        · show Mk K (T.adr K c) (d'.fa K)
          rw [adr h2, ef]
          exact (G.clg C hC).2.2
        · show mg x = some (.ref (T.adr K c))
          rw [adr h2, ← hx]
          exact (G.clg C hC).1
    · exact sss_no
end
end NS
set_option maxHeartbeats 0
namespace NR
open NS
open PySem PySem.Spec PyProof.Rows L2
def top (i : Nat) : Stmt := PySem.Challenge.pw_notslower_k76_errors_are_told_apart.main.body.getD i (.Pass ⟨0, 0, 0, 0⟩)
def mtd (i k : Nat) : Stmt := match top i with
  | .ClassDef _ _ _ b _ _ _ _ _ _ _ => b.getD k (.Pass ⟨0, 0, 0, 0⟩)
  | s => s
def d0 : Df := ⟨"parts", top 3, ["term", "kind", "names", "name", "bound", "constructor", "body"], [true], none, []⟩
def d1 : Df := ⟨"rebuilt", top 4, ["term", "found", "kind", "rows", "row", "part", "pair"], [true, true], none, []⟩
def d2 : Df := ⟨"own_names", top 5, ["term"], [true], none, []⟩
def d3 : Df := ⟨"free_names", top 6, ["term", "found", "name", "part", "names"], [true], none, []⟩
def d4 : Df := ⟨"captures", top 7, ["term", "name", "other", "part", "names"], [true, true, true], none, []⟩
def d5 : Df := ⟨"renamed", top 8, ["term", "pairs", "table", "kind", "found", "part", "names", "name", "pair"], [true, true], none, []⟩
def d6 : Df := ⟨"part_at", top 9, ["term", "path", "index", "found"], [false, true], none, []⟩
def d7 : Df := ⟨"bound_at", top 10, ["term", "path", "names", "index", "own"], [false, true], none, []⟩
def d8 : Df := ⟨"put_at", top 11, ["term", "path", "other", "found", "part", "names"], [true, true, true], none, []⟩
def d9 : Df := ⟨"places", top 12, ["term", "found", "index", "pair", "path"], [true], none, []⟩
def d10 : Df := ⟨"holes", top 15, ["term", "path"], [true], none, []⟩
def d11 : Df := ⟨"filled", top 16, ["context", "term", "path"], [false, true], none, []⟩
def d12 : Df := ⟨"combine", top 26, ["sign", "left", "right"], [true, true, true], none, []⟩
def d13 : Df := ⟨"is_name", top 33, ["word", "char"], [true], none, []⟩
def d14 : Df := ⟨"is_constructor", top 34, ["word", "char"], [true], none, []⟩
def d15 : Df := ⟨"number_of", top 35, ["word", "char"], [true], none, []⟩
def d16 : Df := ⟨"__init__", (mtd 36 0), ["self", "text"], [true, true], some "Reader", []⟩
def d17 : Df := ⟨"word", (mtd 36 1), ["self"], [true], some "Reader", []⟩
def d18 : Df := ⟨"take", (mtd 36 2), ["self", "word"], [true, true], some "Reader", []⟩
def d19 : Df := ⟨"take_name", (mtd 36 3), ["self", "taken", "word"], [true, true], some "Reader", [.tup []]⟩
def d20 : Df := ⟨"take_constructor", (mtd 36 4), ["self", "taken", "word"], [true, true], some "Reader", [.tup []]⟩
def d21 : Df := ⟨"term", (mtd 36 5), ["self", "room", "word", "number"], [true, true], some "Reader", []⟩
def d22 : Df := ⟨"compound", (mtd 36 6), ["self", "word", "room", "count", "name", "part", "_"], [true, true, true], some "Reader", []⟩
def d23 : Df := ⟨"names", (mtd 36 7), ["self", "unlike", "found"], [true, true], some "Reader", []⟩
def d24 : Df := ⟨"bindings", (mtd 36 8), ["self", "room", "rows", "names"], [true, true], some "Reader", []⟩
def d25 : Df := ⟨"rows", (mtd 36 9), ["self", "room", "subject", "rows", "constructor", "names", "row"], [true, true], some "Reader", []⟩
def d26 : Df := ⟨"read_term", top 37, ["text", "reader", "term"], [true], none, []⟩
def d27 : Df := ⟨"unlike", top 39, ["names", "others", "name"], [true, true], none, []⟩
def d28 : Df := ⟨"safe", top 40, ["term", "pairs", "name", "other"], [true, true], none, []⟩
def d29 : Df := ⟨"ticked", top 41, ["term"], [true], none, []⟩
def d30 : Df := ⟨"fresh", top 42, ["part", "names", "name", "other"], [true, true, true, true], none, []⟩
def d31 : Df := ⟨"rename", top 43, ["term", "index", "name", "other", "body", "row", "constructor", "names", "own"], [true, true, true, true], none, []⟩
def d32 : Df := ⟨"rename_let", top 44, ["term", "name", "other", "names", "found", "rows", "row", "part", "own"], [true, true, true], none, []⟩
def d33 : Df := ⟨"beta", top 45, ["term"], [true], none, []⟩
def d34 : Df := ⟨"choose", top 46, ["term", "constructor", "names", "body"], [true], none, []⟩
def d35 : Df := ⟨"zero", top 47, ["term"], [true], none, []⟩
def d36 : Df := ⟨"reckon", top 48, ["term", "number"], [true], none, []⟩
def d37 : Df := ⟨"rest_names", top 49, ["term", "index", "names", "place", "pair", "name"], [true, true], none, []⟩
def d38 : Df := ⟨"front", top 50, ["term", "index"], [true, true], none, []⟩
def d39 : Df := ⟨"float_let", top 51, ["term", "index", "inner", "name", "bound"], [true, true], none, []⟩
def d40 : Df := ⟨"float_cost", top 52, ["term", "index", "inner", "last"], [true, true], none, []⟩
def d41 : Df := ⟨"join", top 53, ["term", "inner", "names", "name", "bound"], [true], none, []⟩
def d42 : Df := ⟨"put_parts", top 54, ["term", "found", "index", "part"], [false, true], none, []⟩
def d43 : Df := ⟨"branch", top 55, ["term", "inner", "used", "found", "part", "names"], [true], none, []⟩
def d44 : Df := ⟨"sink", top 56, ["term", "inner", "own", "used", "found", "name", "bound", "part", "names"], [true], none, []⟩
def d45 : Df := ⟨"order", top 57, ["term", "indexes", "index"], [true, true], none, []⟩
def d46 : Df := ⟨"copy_value", top 58, ["term", "name", "path", "names", "value", "bound", "row"], [true, true, true], none, []⟩
def d47 : Df := ⟨"unused", top 59, ["term", "names", "rows", "part", "row", "name", "bound"], [true, true], none, []⟩
def d48 : Df := ⟨"spoil", top 60, ["term"], [true], none, []⟩
def d49 : Df := ⟨"uses", top 61, ["term", "name", "found", "index", "pair", "own", "path"], [true, true], none, []⟩
def d50 : Df := ⟨"once", top 62, ["term", "found", "path", "name", "bound", "count"], [true], none, []⟩
def d51 : Df := ⟨"alias", top 63, ["term"], [true], none, []⟩
def d52 : Df := ⟨"into", top 64, ["term", "own", "used", "row", "name", "bound"], [true], none, []⟩
def d53 : Df := ⟨"untick", top 65, ["term"], [true], none, []⟩
def d54 : Df := ⟨"cheaper", top 66, ["term"], [true], none, []⟩
def d55 : Df := ⟨"__init__", (mtd 71 0), ["self", "first", "last", "kind"], [true, true, true, true], some "Claim", []⟩
def d56 : Df := ⟨"__eq__", (mtd 71 1), ["self", "other"], [true, true], some "Claim", []⟩
def d57 : Df := ⟨"kind_of", top 72, ["name"], [true], none, []⟩
def d58 : Df := ⟨"applied", top 73, ["name", "term", "given"], [true, true, true], none, []⟩
def d59 : Df := ⟨"told", top 74, ["name", "term", "given"], [true, true, true], none, []⟩
def d60 : Df := ⟨"written", top 75, ["name", "term"], [true, true], none, []⟩
def d61 : Df := ⟨"moved", top 76, ["name", "term"], [true, true], none, []⟩
def d62 : Df := ⟨"dropped", top 77, ["name", "term"], [true, true], none, []⟩
def d63 : Df := ⟨"one_step", top 78, ["term", "step", "claims", "part", "other"], [true, true, true], none, []⟩
def d64 : Df := ⟨"derive", top 79, ["first", "steps", "claims", "term", "kind", "at", "step", "after"], [true, true, true], none, [.tup []]⟩
def d65 : Df := ⟨"by_recursion", top 81, ["context", "pairs", "one", "other", "first", "last"], [true, true, true, true], none, []⟩
def d66 : Df := ⟨"in_context", top 82, ["context", "claim"], [true, true], none, []⟩
def d67 : Df := ⟨"chained", top 83, ["one", "other", "kind"], [true, true], none, []⟩
def d68 : Df := ⟨"undone", top 85, ["term", "step", "claims", "claim", "_", "path", "number"], [true, true, true], none, []⟩
def d69 : Df := ⟨"derived", top 86, ["first", "steps", "claims", "term", "kind", "step", "after"], [true, true, true], none, []⟩
def d70 : Df := ⟨"claim_of", top 87, ["entry", "claims", "numbers", "own", "number"], [true, true], none, []⟩
def d71 : Df := ⟨"checked", top 88, ["entries", "claims", "at", "entry", "claim"], [true], none, []⟩
def d72 : Df := ⟨"__init__", (mtd 91 0), ["self", "line", "at"], [true, true, true], some "Words", []⟩
def d73 : Df := ⟨"next", (mtd 91 1), ["self"], [true], some "Words", []⟩
def d74 : Df := ⟨"number", (mtd 91 2), ["self", "least", "word", "char"], [true, true], some "Words", []⟩
def d75 : Df := ⟨"numbers", (mtd 91 3), ["self", "count", "_"], [true], some "Words", []⟩
def d76 : Df := ⟨"name", (mtd 91 4), ["self", "word"], [true], some "Words", []⟩
def d77 : Df := ⟨"term", (mtd 91 5), ["self", "rest"], [true], some "Words", []⟩
def d78 : Df := ⟨"finish", (mtd 91 6), ["self"], [true], some "Words", []⟩
def d79 : Df := ⟨"told", (mtd 91 7), ["self", "rule", "index", "name", "count", "_"], [true, true], some "Words", []⟩
def d80 : Df := ⟨"step", (mtd 91 8), ["self", "kind", "path", "step", "rule"], [true], some "Words", []⟩
def d81 : Df := ⟨"read_step", top 92, ["line"], [true], none, []⟩
def d82 : Df := ⟨"_law_pool", top 94, ["_law_script", "_law_budget"], [true, true], none, []⟩
def d83 : Df := ⟨"_law_draw", top 95, ["_law_pool_here", "_law_size", "_law_cell", "_law_value"], [true, true], none, []⟩
def d84 : Df := ⟨"_law_raised", top 96, ["_law_way", "_law_one", "e", "_law_kinds", "_law_k"], [true], none, []⟩
def d85 : Df := ⟨"law", top 97, ["_law_script", "_law_pool_here", "_law_first", "_law_k"], [true], none, []⟩
def T : Pg := ⟨[d0, d1, d2, d3, d4, d5, d6, d7, d8, d9, d10, d11, d12, d13, d14, d15, d16, d17, d18, d19, d20, d21, d22, d23, d24, d25, d26, d27, d28, d29, d30, d31, d32, d33, d34, d35, d36, d37, d38, d39, d40, d41, d42, d43, d44, d45, d46, d47, d48, d49, d50, d51, d52, d53, d54, d55, d56, d57, d58, d59, d60, d61, d62, d63, d64, d65, d66, d67, d68, d69, d70, d71, d72, d73, d74, d75, d76, d77, d78, d79, d80, d81, d82, d83, d84, d85], [("SIGNS", .tup [.str "+", .str "-", .str "*", .str "/", .str "<", .str "="]), ("VALUES", .tup [.str "fun", .str "make", .str "number"]), ("HOLE", .tup [.str "hole"]), ("MODULUS", .int 65536), ("KEYS", .tup [.str "fun", .str "call", .str "let", .str "in", .str "make", .str "case", .str "of", .str "end", .str "ifzero", .str "tick", .str "waste", .str "hole"]), ("LETTERS", .str "abcdefghijklmnopqrstuvwxyz"), ("GREATEST", .int 65535), ("DEEPEST", .int 60), ("MOST_ROWS", .int 4), ("SAME", .tup [.str "rename", .str "beta", .str "choose", .str "zero", .str "reckon", .str "float-let", .str "float-cost", .str "join", .str "branch", .str "sink", .str "order", .str "copy", .str "spoil"]), ("BETTER", .tup [.str "unused", .str "once", .str "alias", .str "into", .str "untick", .str "cheaper"]), ("MOST_DIGITS", .int 3)], [("TOLD", [("rename", 3), ("float-let", 1), ("float-cost", 1), ("order", 1), ("copy", 2), ("unused", 1)])], [⟨"Reader", 16, [("word", 17), ("take", 18), ("take_name", 19), ("take_constructor", 20), ("term", 21), ("compound", 22), ("names", 23), ("bindings", 24), ("rows", 25)], ["words", "at"]⟩, ⟨"Claim", 55, [("__eq__", 56)], ["first", "last", "kind"]⟩, ⟨"Words", 72, [("next", 73), ("number", 74), ("numbers", 75), ("name", 76), ("term", 77), ("finish", 78), ("told", 79), ("step", 80)], ["words", "at", "place"]⟩], [⟨⟨"BadText", 500, "at", ["BadText", "TermError", "ValueError"]⟩, (mtd 19 0)⟩, ⟨⟨"BadStep", 501, "at", ["BadStep", "TermError", "ValueError"]⟩, (mtd 20 0)⟩, ⟨⟨"BadClaim", 502, "what", ["BadClaim", "TermError", "ValueError"]⟩, (mtd 21 0)⟩, ⟨⟨"BadEntry", 503, "at", ["BadEntry", "TermError", "ValueError"]⟩, (mtd 22 0)⟩, ⟨⟨"BadLine", 504, "at", ["BadLine", "TermError", "ValueError"]⟩, (mtd 23 0)⟩], ["TermError", "BadText", "BadStep", "BadClaim", "BadEntry", "BadLine", "ValueError"], PySem.Challenge.pw_notslower_k76_errors_are_told_apart.main.file⟩
theorem ok0 : DfOk d0 := ⟨⟨rfl, rfl, rfl, by decide +kernel, rfl, by decide +kernel, by decide +kernel⟩, fun _ _ _ _ _ _ _ us hl => match us, hl with | [_], _ => rfl, rfl, Nat.zero_le _, fun h => absurd rfl h⟩
theorem ok1 : DfOk d1 := ⟨⟨rfl, rfl, rfl, by decide +kernel, rfl, by decide +kernel, by decide +kernel⟩, fun _ _ _ _ _ _ _ us hl => match us, hl with | [_, _], _ => rfl, rfl, Nat.zero_le _, fun h => absurd rfl h⟩
theorem ok2 : DfOk d2 := ⟨⟨rfl, rfl, rfl, by decide +kernel, rfl, by decide +kernel, by decide +kernel⟩, fun _ _ _ _ _ _ _ us hl => match us, hl with | [_], _ => rfl, rfl, Nat.zero_le _, fun h => absurd rfl h⟩
theorem ok3 : DfOk d3 := ⟨⟨rfl, rfl, rfl, by decide +kernel, rfl, by decide +kernel, by decide +kernel⟩, fun _ _ _ _ _ _ _ us hl => match us, hl with | [_], _ => rfl, rfl, Nat.zero_le _, fun h => absurd rfl h⟩
theorem ok4 : DfOk d4 := ⟨⟨rfl, rfl, rfl, by decide +kernel, rfl, by decide +kernel, by decide +kernel⟩, fun _ _ _ _ _ _ _ us hl => match us, hl with | [_, _, _], _ => rfl, rfl, Nat.zero_le _, fun h => absurd rfl h⟩
theorem ok5 : DfOk d5 := ⟨⟨rfl, rfl, rfl, by decide +kernel, rfl, by decide +kernel, by decide +kernel⟩, fun _ _ _ _ _ _ _ us hl => match us, hl with | [_, _], _ => rfl, rfl, Nat.zero_le _, fun h => absurd rfl h⟩
theorem ok6 : DfOk d6 := ⟨⟨rfl, rfl, rfl, by decide +kernel, rfl, by decide +kernel, by decide +kernel⟩, fun _ _ _ _ _ _ _ us hl => match us, hl with | [_, _], _ => rfl, rfl, Nat.zero_le _, fun h => absurd rfl h⟩
theorem ok7 : DfOk d7 := ⟨⟨rfl, rfl, rfl, by decide +kernel, rfl, by decide +kernel, by decide +kernel⟩, fun _ _ _ _ _ _ _ us hl => match us, hl with | [_, _], _ => rfl, rfl, Nat.zero_le _, fun h => absurd rfl h⟩
theorem ok8 : DfOk d8 := ⟨⟨rfl, rfl, rfl, by decide +kernel, rfl, by decide +kernel, by decide +kernel⟩, fun _ _ _ _ _ _ _ us hl => match us, hl with | [_, _, _], _ => rfl, rfl, Nat.zero_le _, fun h => absurd rfl h⟩
theorem ok9 : DfOk d9 := ⟨⟨rfl, rfl, rfl, by decide +kernel, rfl, by decide +kernel, by decide +kernel⟩, fun _ _ _ _ _ _ _ us hl => match us, hl with | [_], _ => rfl, rfl, Nat.zero_le _, fun h => absurd rfl h⟩
theorem ok10 : DfOk d10 := ⟨⟨rfl, rfl, rfl, by decide +kernel, rfl, by decide +kernel, by decide +kernel⟩, fun _ _ _ _ _ _ _ us hl => match us, hl with | [_], _ => rfl, rfl, Nat.zero_le _, fun h => absurd rfl h⟩
theorem ok11 : DfOk d11 := ⟨⟨rfl, rfl, rfl, by decide +kernel, rfl, by decide +kernel, by decide +kernel⟩, fun _ _ _ _ _ _ _ us hl => match us, hl with | [_, _], _ => rfl, rfl, Nat.zero_le _, fun h => absurd rfl h⟩
theorem ok12 : DfOk d12 := ⟨⟨rfl, rfl, rfl, by decide +kernel, rfl, by decide +kernel, by decide +kernel⟩, fun _ _ _ _ _ _ _ us hl => match us, hl with | [_, _, _], _ => rfl, rfl, Nat.zero_le _, fun h => absurd rfl h⟩
theorem ok13 : DfOk d13 := ⟨⟨rfl, rfl, rfl, by decide +kernel, rfl, by decide +kernel, by decide +kernel⟩, fun _ _ _ _ _ _ _ us hl => match us, hl with | [_], _ => rfl, rfl, Nat.zero_le _, fun h => absurd rfl h⟩
theorem ok14 : DfOk d14 := ⟨⟨rfl, rfl, rfl, by decide +kernel, rfl, by decide +kernel, by decide +kernel⟩, fun _ _ _ _ _ _ _ us hl => match us, hl with | [_], _ => rfl, rfl, Nat.zero_le _, fun h => absurd rfl h⟩
theorem ok15 : DfOk d15 := ⟨⟨rfl, rfl, rfl, by decide +kernel, rfl, by decide +kernel, by decide +kernel⟩, fun _ _ _ _ _ _ _ us hl => match us, hl with | [_], _ => rfl, rfl, Nat.zero_le _, fun h => absurd rfl h⟩
theorem ok16 : DfOk d16 := ⟨⟨rfl, rfl, rfl, by decide +kernel, rfl, by decide +kernel, by decide +kernel⟩, fun _ _ _ _ _ _ _ us hl => match us, hl with | [_, _], _ => rfl, rfl, Nat.zero_le _, fun h => absurd rfl h⟩
theorem ok17 : DfOk d17 := ⟨⟨rfl, rfl, rfl, by decide +kernel, rfl, by decide +kernel, by decide +kernel⟩, fun _ _ _ _ _ _ _ us hl => match us, hl with | [_], _ => rfl, rfl, Nat.zero_le _, fun h => absurd rfl h⟩
theorem ok18 : DfOk d18 := ⟨⟨rfl, rfl, rfl, by decide +kernel, rfl, by decide +kernel, by decide +kernel⟩, fun _ _ _ _ _ _ _ us hl => match us, hl with | [_, _], _ => rfl, rfl, Nat.zero_le _, fun h => absurd rfl h⟩
theorem ok19 : DfOk d19 := ⟨⟨rfl, rfl, rfl, by decide +kernel, rfl, by decide +kernel, by decide +kernel⟩, (fun h => by cases h), rfl, by decide, fun _ j hj t kV doc pm an cdv ct us its h1 h2 => by
  rcases j with _ | j
  · match us, its, h1, h2 with | [_], [_], _, _ => exact ⟨_, rfl, rfl⟩
  ·
    rcases j with _ | j
    · match us, its, h1, h2 with | [_, _], [_], _, _ => exact ⟨_, rfl, rfl⟩
    ·
      exact absurd hj (by show ¬ (j + 2 ≤ 1); omega)⟩
theorem ok20 : DfOk d20 := ⟨⟨rfl, rfl, rfl, by decide +kernel, rfl, by decide +kernel, by decide +kernel⟩, (fun h => by cases h), rfl, by decide, fun _ j hj t kV doc pm an cdv ct us its h1 h2 => by
  rcases j with _ | j
  · match us, its, h1, h2 with | [_], [_], _, _ => exact ⟨_, rfl, rfl⟩
  ·
    rcases j with _ | j
    · match us, its, h1, h2 with | [_, _], [_], _, _ => exact ⟨_, rfl, rfl⟩
    ·
      exact absurd hj (by show ¬ (j + 2 ≤ 1); omega)⟩
theorem ok21 : DfOk d21 := ⟨⟨rfl, rfl, rfl, by decide +kernel, rfl, by decide +kernel, by decide +kernel⟩, fun _ _ _ _ _ _ _ us hl => match us, hl with | [_, _], _ => rfl, rfl, Nat.zero_le _, fun h => absurd rfl h⟩
theorem ok22 : DfOk d22 := ⟨⟨rfl, rfl, rfl, by decide +kernel, rfl, by decide +kernel, by decide +kernel⟩, fun _ _ _ _ _ _ _ us hl => match us, hl with | [_, _, _], _ => rfl, rfl, Nat.zero_le _, fun h => absurd rfl h⟩
theorem ok23 : DfOk d23 := ⟨⟨rfl, rfl, rfl, by decide +kernel, rfl, by decide +kernel, by decide +kernel⟩, fun _ _ _ _ _ _ _ us hl => match us, hl with | [_, _], _ => rfl, rfl, Nat.zero_le _, fun h => absurd rfl h⟩
theorem ok24 : DfOk d24 := ⟨⟨rfl, rfl, rfl, by decide +kernel, rfl, by decide +kernel, by decide +kernel⟩, fun _ _ _ _ _ _ _ us hl => match us, hl with | [_, _], _ => rfl, rfl, Nat.zero_le _, fun h => absurd rfl h⟩
theorem ok25 : DfOk d25 := ⟨⟨rfl, rfl, rfl, by decide +kernel, rfl, by decide +kernel, by decide +kernel⟩, fun _ _ _ _ _ _ _ us hl => match us, hl with | [_, _], _ => rfl, rfl, Nat.zero_le _, fun h => absurd rfl h⟩
theorem ok26 : DfOk d26 := ⟨⟨rfl, rfl, rfl, by decide +kernel, rfl, by decide +kernel, by decide +kernel⟩, fun _ _ _ _ _ _ _ us hl => match us, hl with | [_], _ => rfl, rfl, Nat.zero_le _, fun h => absurd rfl h⟩
theorem ok27 : DfOk d27 := ⟨⟨rfl, rfl, rfl, by decide +kernel, rfl, by decide +kernel, by decide +kernel⟩, fun _ _ _ _ _ _ _ us hl => match us, hl with | [_, _], _ => rfl, rfl, Nat.zero_le _, fun h => absurd rfl h⟩
theorem ok28 : DfOk d28 := ⟨⟨rfl, rfl, rfl, by decide +kernel, rfl, by decide +kernel, by decide +kernel⟩, fun _ _ _ _ _ _ _ us hl => match us, hl with | [_, _], _ => rfl, rfl, Nat.zero_le _, fun h => absurd rfl h⟩
theorem ok29 : DfOk d29 := ⟨⟨rfl, rfl, rfl, by decide +kernel, rfl, by decide +kernel, by decide +kernel⟩, fun _ _ _ _ _ _ _ us hl => match us, hl with | [_], _ => rfl, rfl, Nat.zero_le _, fun h => absurd rfl h⟩
theorem ok30 : DfOk d30 := ⟨⟨rfl, rfl, rfl, by decide +kernel, rfl, by decide +kernel, by decide +kernel⟩, fun _ _ _ _ _ _ _ us hl => match us, hl with | [_, _, _, _], _ => rfl, rfl, Nat.zero_le _, fun h => absurd rfl h⟩
theorem ok31 : DfOk d31 := ⟨⟨rfl, rfl, rfl, by decide +kernel, rfl, by decide +kernel, by decide +kernel⟩, fun _ _ _ _ _ _ _ us hl => match us, hl with | [_, _, _, _], _ => rfl, rfl, Nat.zero_le _, fun h => absurd rfl h⟩
theorem ok32 : DfOk d32 := ⟨⟨rfl, rfl, rfl, by decide +kernel, rfl, by decide +kernel, by decide +kernel⟩, fun _ _ _ _ _ _ _ us hl => match us, hl with | [_, _, _], _ => rfl, rfl, Nat.zero_le _, fun h => absurd rfl h⟩
theorem ok33 : DfOk d33 := ⟨⟨rfl, rfl, rfl, by decide +kernel, rfl, by decide +kernel, by decide +kernel⟩, fun _ _ _ _ _ _ _ us hl => match us, hl with | [_], _ => rfl, rfl, Nat.zero_le _, fun h => absurd rfl h⟩
theorem ok34 : DfOk d34 := ⟨⟨rfl, rfl, rfl, by decide +kernel, rfl, by decide +kernel, by decide +kernel⟩, fun _ _ _ _ _ _ _ us hl => match us, hl with | [_], _ => rfl, rfl, Nat.zero_le _, fun h => absurd rfl h⟩
theorem ok35 : DfOk d35 := ⟨⟨rfl, rfl, rfl, by decide +kernel, rfl, by decide +kernel, by decide +kernel⟩, fun _ _ _ _ _ _ _ us hl => match us, hl with | [_], _ => rfl, rfl, Nat.zero_le _, fun h => absurd rfl h⟩
theorem ok36 : DfOk d36 := ⟨⟨rfl, rfl, rfl, by decide +kernel, rfl, by decide +kernel, by decide +kernel⟩, fun _ _ _ _ _ _ _ us hl => match us, hl with | [_], _ => rfl, rfl, Nat.zero_le _, fun h => absurd rfl h⟩
theorem ok37 : DfOk d37 := ⟨⟨rfl, rfl, rfl, by decide +kernel, rfl, by decide +kernel, by decide +kernel⟩, fun _ _ _ _ _ _ _ us hl => match us, hl with | [_, _], _ => rfl, rfl, Nat.zero_le _, fun h => absurd rfl h⟩
theorem ok38 : DfOk d38 := ⟨⟨rfl, rfl, rfl, by decide +kernel, rfl, by decide +kernel, by decide +kernel⟩, fun _ _ _ _ _ _ _ us hl => match us, hl with | [_, _], _ => rfl, rfl, Nat.zero_le _, fun h => absurd rfl h⟩
theorem ok39 : DfOk d39 := ⟨⟨rfl, rfl, rfl, by decide +kernel, rfl, by decide +kernel, by decide +kernel⟩, fun _ _ _ _ _ _ _ us hl => match us, hl with | [_, _], _ => rfl, rfl, Nat.zero_le _, fun h => absurd rfl h⟩
theorem ok40 : DfOk d40 := ⟨⟨rfl, rfl, rfl, by decide +kernel, rfl, by decide +kernel, by decide +kernel⟩, fun _ _ _ _ _ _ _ us hl => match us, hl with | [_, _], _ => rfl, rfl, Nat.zero_le _, fun h => absurd rfl h⟩
theorem ok41 : DfOk d41 := ⟨⟨rfl, rfl, rfl, by decide +kernel, rfl, by decide +kernel, by decide +kernel⟩, fun _ _ _ _ _ _ _ us hl => match us, hl with | [_], _ => rfl, rfl, Nat.zero_le _, fun h => absurd rfl h⟩
theorem ok42 : DfOk d42 := ⟨⟨rfl, rfl, rfl, by decide +kernel, rfl, by decide +kernel, by decide +kernel⟩, fun _ _ _ _ _ _ _ us hl => match us, hl with | [_, _], _ => rfl, rfl, Nat.zero_le _, fun h => absurd rfl h⟩
theorem ok43 : DfOk d43 := ⟨⟨rfl, rfl, rfl, by decide +kernel, rfl, by decide +kernel, by decide +kernel⟩, fun _ _ _ _ _ _ _ us hl => match us, hl with | [_], _ => rfl, rfl, Nat.zero_le _, fun h => absurd rfl h⟩
theorem ok44 : DfOk d44 := ⟨⟨rfl, rfl, rfl, by decide +kernel, rfl, by decide +kernel, by decide +kernel⟩, fun _ _ _ _ _ _ _ us hl => match us, hl with | [_], _ => rfl, rfl, Nat.zero_le _, fun h => absurd rfl h⟩
theorem ok45 : DfOk d45 := ⟨⟨rfl, rfl, rfl, by decide +kernel, rfl, by decide +kernel, by decide +kernel⟩, fun _ _ _ _ _ _ _ us hl => match us, hl with | [_, _], _ => rfl, rfl, Nat.zero_le _, fun h => absurd rfl h⟩
theorem ok46 : DfOk d46 := ⟨⟨rfl, rfl, rfl, by decide +kernel, rfl, by decide +kernel, by decide +kernel⟩, fun _ _ _ _ _ _ _ us hl => match us, hl with | [_, _, _], _ => rfl, rfl, Nat.zero_le _, fun h => absurd rfl h⟩
theorem ok47 : DfOk d47 := ⟨⟨rfl, rfl, rfl, by decide +kernel, rfl, by decide +kernel, by decide +kernel⟩, fun _ _ _ _ _ _ _ us hl => match us, hl with | [_, _], _ => rfl, rfl, Nat.zero_le _, fun h => absurd rfl h⟩
theorem ok48 : DfOk d48 := ⟨⟨rfl, rfl, rfl, by decide +kernel, rfl, by decide +kernel, by decide +kernel⟩, fun _ _ _ _ _ _ _ us hl => match us, hl with | [_], _ => rfl, rfl, Nat.zero_le _, fun h => absurd rfl h⟩
theorem ok49 : DfOk d49 := ⟨⟨rfl, rfl, rfl, by decide +kernel, rfl, by decide +kernel, by decide +kernel⟩, fun _ _ _ _ _ _ _ us hl => match us, hl with | [_, _], _ => rfl, rfl, Nat.zero_le _, fun h => absurd rfl h⟩
theorem ok50 : DfOk d50 := ⟨⟨rfl, rfl, rfl, by decide +kernel, rfl, by decide +kernel, by decide +kernel⟩, fun _ _ _ _ _ _ _ us hl => match us, hl with | [_], _ => rfl, rfl, Nat.zero_le _, fun h => absurd rfl h⟩
theorem ok51 : DfOk d51 := ⟨⟨rfl, rfl, rfl, by decide +kernel, rfl, by decide +kernel, by decide +kernel⟩, fun _ _ _ _ _ _ _ us hl => match us, hl with | [_], _ => rfl, rfl, Nat.zero_le _, fun h => absurd rfl h⟩
theorem ok52 : DfOk d52 := ⟨⟨rfl, rfl, rfl, by decide +kernel, rfl, by decide +kernel, by decide +kernel⟩, fun _ _ _ _ _ _ _ us hl => match us, hl with | [_], _ => rfl, rfl, Nat.zero_le _, fun h => absurd rfl h⟩
theorem ok53 : DfOk d53 := ⟨⟨rfl, rfl, rfl, by decide +kernel, rfl, by decide +kernel, by decide +kernel⟩, fun _ _ _ _ _ _ _ us hl => match us, hl with | [_], _ => rfl, rfl, Nat.zero_le _, fun h => absurd rfl h⟩
theorem ok54 : DfOk d54 := ⟨⟨rfl, rfl, rfl, by decide +kernel, rfl, by decide +kernel, by decide +kernel⟩, fun _ _ _ _ _ _ _ us hl => match us, hl with | [_], _ => rfl, rfl, Nat.zero_le _, fun h => absurd rfl h⟩
theorem ok55 : DfOk d55 := ⟨⟨rfl, rfl, rfl, by decide +kernel, rfl, by decide +kernel, by decide +kernel⟩, fun _ _ _ _ _ _ _ us hl => match us, hl with | [_, _, _, _], _ => rfl, rfl, Nat.zero_le _, fun h => absurd rfl h⟩
theorem ok56 : DfOk d56 := ⟨⟨rfl, rfl, rfl, by decide +kernel, rfl, by decide +kernel, by decide +kernel⟩, fun _ _ _ _ _ _ _ us hl => match us, hl with | [_, _], _ => rfl, rfl, Nat.zero_le _, fun h => absurd rfl h⟩
theorem ok57 : DfOk d57 := ⟨⟨rfl, rfl, rfl, by decide +kernel, rfl, by decide +kernel, by decide +kernel⟩, fun _ _ _ _ _ _ _ us hl => match us, hl with | [_], _ => rfl, rfl, Nat.zero_le _, fun h => absurd rfl h⟩
theorem ok58 : DfOk d58 := ⟨⟨rfl, rfl, rfl, by decide +kernel, rfl, by decide +kernel, by decide +kernel⟩, fun _ _ _ _ _ _ _ us hl => match us, hl with | [_, _, _], _ => rfl, rfl, Nat.zero_le _, fun h => absurd rfl h⟩
theorem ok59 : DfOk d59 := ⟨⟨rfl, rfl, rfl, by decide +kernel, rfl, by decide +kernel, by decide +kernel⟩, fun _ _ _ _ _ _ _ us hl => match us, hl with | [_, _, _], _ => rfl, rfl, Nat.zero_le _, fun h => absurd rfl h⟩
theorem ok60 : DfOk d60 := ⟨⟨rfl, rfl, rfl, by decide +kernel, rfl, by decide +kernel, by decide +kernel⟩, fun _ _ _ _ _ _ _ us hl => match us, hl with | [_, _], _ => rfl, rfl, Nat.zero_le _, fun h => absurd rfl h⟩
theorem ok61 : DfOk d61 := ⟨⟨rfl, rfl, rfl, by decide +kernel, rfl, by decide +kernel, by decide +kernel⟩, fun _ _ _ _ _ _ _ us hl => match us, hl with | [_, _], _ => rfl, rfl, Nat.zero_le _, fun h => absurd rfl h⟩
theorem ok62 : DfOk d62 := ⟨⟨rfl, rfl, rfl, by decide +kernel, rfl, by decide +kernel, by decide +kernel⟩, fun _ _ _ _ _ _ _ us hl => match us, hl with | [_, _], _ => rfl, rfl, Nat.zero_le _, fun h => absurd rfl h⟩
theorem ok63 : DfOk d63 := ⟨⟨rfl, rfl, rfl, by decide +kernel, rfl, by decide +kernel, by decide +kernel⟩, fun _ _ _ _ _ _ _ us hl => match us, hl with | [_, _, _], _ => rfl, rfl, Nat.zero_le _, fun h => absurd rfl h⟩
theorem ok64 : DfOk d64 := ⟨⟨rfl, rfl, rfl, by decide +kernel, rfl, by decide +kernel, by decide +kernel⟩, (fun h => by cases h), rfl, by decide, fun _ j hj t kV doc pm an cdv ct us its h1 h2 => by
  rcases j with _ | j
  · match us, its, h1, h2 with | [_, _], [_], _, _ => exact ⟨_, rfl, rfl⟩
  ·
    rcases j with _ | j
    · match us, its, h1, h2 with | [_, _, _], [_], _, _ => exact ⟨_, rfl, rfl⟩
    ·
      exact absurd hj (by show ¬ (j + 2 ≤ 1); omega)⟩
theorem ok65 : DfOk d65 := ⟨⟨rfl, rfl, rfl, by decide +kernel, rfl, by decide +kernel, by decide +kernel⟩, fun _ _ _ _ _ _ _ us hl => match us, hl with | [_, _, _, _], _ => rfl, rfl, Nat.zero_le _, fun h => absurd rfl h⟩
theorem ok66 : DfOk d66 := ⟨⟨rfl, rfl, rfl, by decide +kernel, rfl, by decide +kernel, by decide +kernel⟩, fun _ _ _ _ _ _ _ us hl => match us, hl with | [_, _], _ => rfl, rfl, Nat.zero_le _, fun h => absurd rfl h⟩
theorem ok67 : DfOk d67 := ⟨⟨rfl, rfl, rfl, by decide +kernel, rfl, by decide +kernel, by decide +kernel⟩, fun _ _ _ _ _ _ _ us hl => match us, hl with | [_, _], _ => rfl, rfl, Nat.zero_le _, fun h => absurd rfl h⟩
theorem ok68 : DfOk d68 := ⟨⟨rfl, rfl, rfl, by decide +kernel, rfl, by decide +kernel, by decide +kernel⟩, fun _ _ _ _ _ _ _ us hl => match us, hl with | [_, _, _], _ => rfl, rfl, Nat.zero_le _, fun h => absurd rfl h⟩
theorem ok69 : DfOk d69 := ⟨⟨rfl, rfl, rfl, by decide +kernel, rfl, by decide +kernel, by decide +kernel⟩, fun _ _ _ _ _ _ _ us hl => match us, hl with | [_, _, _], _ => rfl, rfl, Nat.zero_le _, fun h => absurd rfl h⟩
theorem ok70 : DfOk d70 := ⟨⟨rfl, rfl, rfl, by decide +kernel, rfl, by decide +kernel, by decide +kernel⟩, fun _ _ _ _ _ _ _ us hl => match us, hl with | [_, _], _ => rfl, rfl, Nat.zero_le _, fun h => absurd rfl h⟩
theorem ok71 : DfOk d71 := ⟨⟨rfl, rfl, rfl, by decide +kernel, rfl, by decide +kernel, by decide +kernel⟩, fun _ _ _ _ _ _ _ us hl => match us, hl with | [_], _ => rfl, rfl, Nat.zero_le _, fun h => absurd rfl h⟩
theorem ok72 : DfOk d72 := ⟨⟨rfl, rfl, rfl, by decide +kernel, rfl, by decide +kernel, by decide +kernel⟩, fun _ _ _ _ _ _ _ us hl => match us, hl with | [_, _, _], _ => rfl, rfl, Nat.zero_le _, fun h => absurd rfl h⟩
theorem ok73 : DfOk d73 := ⟨⟨rfl, rfl, rfl, by decide +kernel, rfl, by decide +kernel, by decide +kernel⟩, fun _ _ _ _ _ _ _ us hl => match us, hl with | [_], _ => rfl, rfl, Nat.zero_le _, fun h => absurd rfl h⟩
theorem ok74 : DfOk d74 := ⟨⟨rfl, rfl, rfl, by decide +kernel, rfl, by decide +kernel, by decide +kernel⟩, fun _ _ _ _ _ _ _ us hl => match us, hl with | [_, _], _ => rfl, rfl, Nat.zero_le _, fun h => absurd rfl h⟩
theorem ok75 : DfOk d75 := ⟨⟨rfl, rfl, rfl, by decide +kernel, rfl, by decide +kernel, by decide +kernel⟩, fun _ _ _ _ _ _ _ us hl => match us, hl with | [_], _ => rfl, rfl, Nat.zero_le _, fun h => absurd rfl h⟩
theorem ok76 : DfOk d76 := ⟨⟨rfl, rfl, rfl, by decide +kernel, rfl, by decide +kernel, by decide +kernel⟩, fun _ _ _ _ _ _ _ us hl => match us, hl with | [_], _ => rfl, rfl, Nat.zero_le _, fun h => absurd rfl h⟩
theorem ok77 : DfOk d77 := ⟨⟨rfl, rfl, rfl, by decide +kernel, rfl, by decide +kernel, by decide +kernel⟩, fun _ _ _ _ _ _ _ us hl => match us, hl with | [_], _ => rfl, rfl, Nat.zero_le _, fun h => absurd rfl h⟩
theorem ok78 : DfOk d78 := ⟨⟨rfl, rfl, rfl, by decide +kernel, rfl, by decide +kernel, by decide +kernel⟩, fun _ _ _ _ _ _ _ us hl => match us, hl with | [_], _ => rfl, rfl, Nat.zero_le _, fun h => absurd rfl h⟩
theorem ok79 : DfOk d79 := ⟨⟨rfl, rfl, rfl, by decide +kernel, rfl, by decide +kernel, by decide +kernel⟩, fun _ _ _ _ _ _ _ us hl => match us, hl with | [_, _], _ => rfl, rfl, Nat.zero_le _, fun h => absurd rfl h⟩
theorem ok80 : DfOk d80 := ⟨⟨rfl, rfl, rfl, by decide +kernel, rfl, by decide +kernel, by decide +kernel⟩, fun _ _ _ _ _ _ _ us hl => match us, hl with | [_], _ => rfl, rfl, Nat.zero_le _, fun h => absurd rfl h⟩
theorem ok81 : DfOk d81 := ⟨⟨rfl, rfl, rfl, by decide +kernel, rfl, by decide +kernel, by decide +kernel⟩, fun _ _ _ _ _ _ _ us hl => match us, hl with | [_], _ => rfl, rfl, Nat.zero_le _, fun h => absurd rfl h⟩
theorem ok82 : DfOk d82 := ⟨⟨rfl, rfl, rfl, by decide +kernel, rfl, by decide +kernel, by decide +kernel⟩, fun _ _ _ _ _ _ _ us hl => match us, hl with | [_, _], _ => rfl, rfl, Nat.zero_le _, fun h => absurd rfl h⟩
theorem ok83 : DfOk d83 := ⟨⟨rfl, rfl, rfl, by decide +kernel, rfl, by decide +kernel, by decide +kernel⟩, fun _ _ _ _ _ _ _ us hl => match us, hl with | [_, _], _ => rfl, rfl, Nat.zero_le _, fun h => absurd rfl h⟩
theorem ok84 : DfOk d84 := ⟨⟨rfl, rfl, rfl, by decide +kernel, rfl, by decide +kernel, by decide +kernel⟩, fun _ _ _ _ _ _ _ us hl => match us, hl with | [_], _ => rfl, rfl, Nat.zero_le _, fun h => absurd rfl h⟩
theorem ok85 : DfOk d85 := ⟨⟨rfl, rfl, rfl, by decide +kernel, rfl, by decide +kernel, by decide +kernel⟩, fun _ _ _ _ _ _ _ us hl => match us, hl with | [_], _ => rfl, rfl, Nat.zero_le _, fun h => absurd rfl h⟩
theorem df_ok : ∀ d ∈ T.defs, DfOk d := by
  intro d hd
  simp only [T, List.mem_cons, List.not_mem_nil, or_false] at hd
  rcases hd with rfl | rfl | rfl | rfl | rfl | rfl | rfl | rfl | rfl | rfl | rfl | rfl | rfl | rfl | rfl | rfl | rfl | rfl | rfl | rfl | rfl | rfl | rfl | rfl | rfl | rfl | rfl | rfl | rfl | rfl | rfl | rfl | rfl | rfl | rfl | rfl | rfl | rfl | rfl | rfl | rfl | rfl | rfl | rfl | rfl | rfl | rfl | rfl | rfl | rfl | rfl | rfl | rfl | rfl | rfl | rfl | rfl | rfl | rfl | rfl | rfl | rfl | rfl | rfl | rfl | rfl | rfl | rfl | rfl | rfl | rfl | rfl | rfl | rfl | rfl | rfl | rfl | rfl | rfl | rfl | rfl | rfl | rfl | rfl | rfl | rfl
  · exact ok0
  · exact ok1
  · exact ok2
  · exact ok3
  · exact ok4
  · exact ok5
  · exact ok6
  · exact ok7
  · exact ok8
  · exact ok9
  · exact ok10
  · exact ok11
  · exact ok12
  · exact ok13
  · exact ok14
  · exact ok15
  · exact ok16
  · exact ok17
  · exact ok18
  · exact ok19
  · exact ok20
  · exact ok21
  · exact ok22
  · exact ok23
  · exact ok24
  · exact ok25
  · exact ok26
  · exact ok27
  · exact ok28
  · exact ok29
  · exact ok30
  · exact ok31
  · exact ok32
  · exact ok33
  · exact ok34
  · exact ok35
  · exact ok36
  · exact ok37
  · exact ok38
  · exact ok39
  · exact ok40
  · exact ok41
  · exact ok42
  · exact ok43
  · exact ok44
  · exact ok45
  · exact ok46
  · exact ok47
  · exact ok48
  · exact ok49
  · exact ok50
  · exact ok51
  · exact ok52
  · exact ok53
  · exact ok54
  · exact ok55
  · exact ok56
  · exact ok57
  · exact ok58
  · exact ok59
  · exact ok60
  · exact ok61
  · exact ok62
  · exact ok63
  · exact ok64
  · exact ok65
  · exact ok66
  · exact ok67
  · exact ok68
  · exact ok69
  · exact ok70
  · exact ok71
  · exact ok72
  · exact ok73
  · exact ok74
  · exact ok75
  · exact ok76
  · exact ok77
  · exact ok78
  · exact ok79
  · exact ok80
  · exact ok81
  · exact ok82
  · exact ok83
  · exact ok84
  · exact ok85
theorem ex_ok : ∀ e ∈ T.xs, ExOk e := by
  intro e he
  simp only [T, List.mem_cons, List.not_mem_nil, or_false] at he
  rcases he with rfl | rfl | rfl | rfl | rfl
  · exact ⟨⟨_, _, rfl⟩, ⟨exM (defBody (mtd 19 0)), exK (defBody (mtd 19 0)), exQ (defBody (mtd 19 0)), rfl, rfl⟩, rfl, .inl rfl⟩
  · exact ⟨⟨_, _, rfl⟩, ⟨exM (defBody (mtd 20 0)), exK (defBody (mtd 20 0)), exQ (defBody (mtd 20 0)), rfl, rfl⟩, rfl, .inl rfl⟩
  · exact ⟨⟨_, _, rfl⟩, ⟨exM (defBody (mtd 21 0)), exK (defBody (mtd 21 0)), exQ (defBody (mtd 21 0)), rfl, rfl⟩, rfl, .inr rfl⟩
  · exact ⟨⟨_, _, rfl⟩, ⟨exM (defBody (mtd 22 0)), exK (defBody (mtd 22 0)), exQ (defBody (mtd 22 0)), rfl, rfl⟩, rfl, .inl rfl⟩
  · exact ⟨⟨_, _, rfl⟩, ⟨exM (defBody (mtd 23 0)), exK (defBody (mtd 23 0)), exQ (defBody (mtd 23 0)), rfl, rfl⟩, rfl, .inl rfl⟩
def loose : List Str := (["SIGNS", "VALUES", "parts", "rebuilt", "own_names", "free_names", "captures", "renamed", "part_at", "bound_at", "put_at", "places", "HOLE", "holes", "filled", "TermError", "BadText", "BadStep", "BadClaim", "BadEntry", "BadLine", "MODULUS", "combine", "KEYS", "LETTERS", "GREATEST", "DEEPEST", "MOST_ROWS", "is_name", "is_constructor"] : List Str) ++ (["number_of", "Reader", "read_term", "unlike", "safe", "ticked", "fresh", "rename", "rename_let", "beta", "choose", "zero", "reckon", "rest_names", "front", "float_let", "float_cost", "join", "put_parts", "branch", "sink", "order", "copy_value", "unused", "spoil", "uses", "once", "alias", "into", "untick"] : List Str) ++ (["cheaper", "SAME", "BETTER", "TOLD", "Claim", "kind_of", "applied", "told", "written", "moved", "dropped", "one_step", "derive", "by_recursion", "in_context", "chained", "undone", "derived", "claim_of", "checked", "MOST_DIGITS", "Words", "read_step", "_law_pool", "_law_draw", "_law_raised"] : List Str)
abbrev Rw : PySem.W.OpenRow := PySem.W.OpenLaw.row PySem.Challenge.rw_notslower_k76_errors_are_told_apart
abbrev hk : PySem.W.Hook := T.hook 6
def ob (s : PySem.W.SharedT) : He.AlT × (Bool × List XnW) := T.look 6 (HandSHeadRun.getT s)
theorem ob_eq (s : PySem.W.SharedT) : ob s = hk.obs s.abs := Pg.look_eq (HandSHeadRun.getT_eq s)
theorem runF (w : World) : HandSHeadRun.RunEq Rw (PySem.W.view Rw.prog [97]) hk ob 6000 loose (w.withFollow "special-get-raises" false) := by
  intro os
  kernel_rfl
theorem runT (w : World) : HandSHeadRun.RunEq Rw (PySem.W.view Rw.prog [97]) hk ob 6000 loose (w.withFollow "special-get-raises" true) := by
  intro os
  kernel_rfl
theorem run (w : World) : HandSHeadRun.RunEq Rw (PySem.W.view Rw.prog [97]) hk ob 6000 loose w :=
  PySem.W.byRow2 "special-get-raises" (P := fun w => HandSHeadRun.RunEq Rw (PySem.W.view Rw.prog [97]) hk ob 6000 loose w) runF runT w
end NR


namespace NS
open PySem PySem.Spec PyProof.Rows L2
/-! ## 16. a law's end -/
section
variable {T : Pg} {K : PySem.W.Frag} {cA : Nat → Addr}
theorem law_sp {k i n : Nat} (h : ∀ ns : List Int, ns.length ≤ n → ∃ s, T.cal k i [.ro (ns.map .int)] = .ok (.bl true) [s]) (H : Hp) (a : Addr) (ns : List Int) (hl : ns.length ≤ n) (hS : SqL K H a (ns.map V.int)) :
    spF K cA (T.cal k i) [true] [.ref a] H (fun v _ => v = .bl true) (fun _ _ _ => False) := by
  obtain ⟨s, e⟩ := h ns hl
  refine ⟨H, fun _ => none, fun _ => [], [.ro (ns.map .int)], ⟨rfl, Same.refl H, (fun a o z => by cases z), fun j d hj => ?_, (fun _ _ => rfl), (fun _ => List.nodup_nil), (fun _ _ _ z _ => by cases z), (fun _ _ z => by cases z), fun j v hv => ?_, (fun a o z => by cases z)⟩, rfl, ?_⟩
  · cases j with
    | zero =>
      cases hj
      have q : ∀ l : List Int, RepFs K cA H (l.map .int) (l.map V.int) := fun l => by
        induction l with
        | nil => rfl
        | cons i l ih => exact ⟨.int i, _, rfl, rfl, ih⟩
      exact ⟨.ref a, rfl, ⟨a, _, rfl, hS, q ns⟩, rfl⟩
    | succ j => cases hj
  · obtain ⟨_, h2⟩ := pnOf_some hv
    rw [List.getElem?_map, h2]
    rfl
  · rw [e]
    refine ⟨rfl, fun v H' F' fp' _ _ q => ?_⟩
    obtain ⟨l, q1, _⟩ := q
    exact q1.1
theorem law_facts {P : Program} {w : World} {h : Heap} {mg : Str → Option Value} {f : Addr} {d : Df} {k i n : Nat} (df : ∀ d ∈ T.defs, DfOk d) (X : K.In h) (G : h.Ns mainGlobals mg) (c : He.SaysT T.fa T.fn T.ts w K) (ce : T.ext K = true) (cx : T.xs.map (xnW K) = T.xs.map Ex.val) (hxo : ∀ e ∈ T.xs, ExOk e) (hP : T.xs ≠ [] → P.main.file = T.file ∧ (P.main.scope.names.lookup ("super" : Str)).isSome = false)
    (hd : T.defs[i]? = some d) (ho : d.own = none) (h0 : d.dfl = []) (hp : d.pins = [true]) {x : Str} (hps : d.ps = [x]) (hmg : mg d.nm = some (.ref f)) (hlaw : ∀ ns : List Int, ns.length ≤ n → ∃ s, T.cal k i [.ro (ns.map .int)] = .ok (.bl true) [s]) :
    ∃ (fd : FuncData) (sp : Sp), (∀ (s : Shared) (v : Value), BindsTo s fd ⟨[v], []⟩ [(x, v)]) ∧ (∀ (H : Hp) (a : Addr) (ns : List Int), ns.length ≤ n → Only H → SqL K H a (ns.map V.int) → sp [.ref a] H (fun v _ => v = .bl true) fun _ _ _ => False) ∧
      ∀ base : Heap, K.In base → base.Ns mainGlobals mg → FnOk P w K mg base (L2N.CX P w) (k + 1) f fd [x] sp := by
  have PG : PgOk T P K w mg := Pg.ok_of df X G c ce cx hxo hP
  have hm : d ∈ T.defs := List.mem_of_getElem? hd
  obtain ⟨fd, F⟩ := PG.fn d hm
  have ef : d.fa K = He.ga K d.nm := by
    unfold Df.fa Df.at_
    rw [ho]
    rfl
  have e := hmg.symm.trans (PG.nm d hm ho)
  cases e
  have e1 : He.DefD.dvs K d.dd = [] := by
    unfold He.DefD.dvs Df.dd
    rw [h0]
    rfl
  have F2 := F
  rw [e1] at F2
  refine ⟨fd, spF K (T.adr K) (T.cal k i) [true], fun s v => ?_, fun H a ns hl _ hS => law_sp hlaw H a ns hl hS, fun base _ _ => ?_⟩
  · have b := F2.bindsA (ps := [x]) (fun kV doc pm an cdv ct us hl => by
      have := (df d hm).bd h0 kV doc pm an cdv ct us (by rw [hps]; exact hl)
      rw [hps] at this
      exact this) s [v] rfl
    exact b
  · have z := (Pg.ok2 (P := P) (w := w) (base := base) PG k).1 i d fd hd F
    rw [hps, hp, ef] at z
    exact z
end
/-- the law's call: nothing may come out but True -/
theorem law_walk {l : PySem.W.OpenLaw} {n k : Nat} {q : Program} {out : List Str} {XP : (Str → Option Value) → Heap → Prop} {YP : World → Heap → Prop} {d : DefRec} {x : Str} (hn : l.most = some n) (hz : n ≤ sizeLine) (hd : d.params.defaults = []) (hr : Room k callerA)
    (F : ∀ (w : World) (mg : Str → Option Value) (f : Addr) (h : Heap), YP w h → h.Ns mainGlobals mg → mg d.name = some (.ref f) → ∃ (K : PySem.W.Frag) (fd : FuncData) (sp : Sp), K.In h ∧ (∀ (s : Shared) (v : Value), BindsTo s fd ⟨[v], []⟩ [(x, v)]) ∧
      (∀ (H : Hp) (a : Addr) (ns : List Int), ns.length ≤ n → Only H → SqL K H a (ns.map V.int) → sp [.ref a] H (fun v _ => v = .bl true) fun _ _ _ => False) ∧
      ∀ base : Heap, K.In base → base.Ns mainGlobals mg → FnOk l.prog w K mg base (L2N.CX l.prog w) k f fd [x] sp) : PySem.W.WalkO q out XP YP l.row.toRowW d [] (fun f vs => PySem.call f vs) := by
  refine Att.attach_call hn hd fun w s s1 mg mb f o pm cd doc a vs ns G Y ho h1 h2 hm hj hi hl hg => ?_
  obtain ⟨K, fd, sp, KX, b, hs, hF⟩ := F w mg f _ Y G.T.g hm
  refine law_call KX G.T.g G.T.b G.T.builtins G.T.nolimit hg hj hi (Nat.le_trans hl hz) hr hF b (fun H z hS => hs H a ns hl z hS) fun H e s' c => ?_
  obtain ⟨_, _, _, _, _, _, _, _, _, _, _, _, z⟩ := c
  exact z
end NS
namespace NS
open PySem PySem.Spec PyProof.Rows L2

/-! ## 17. reckoning with meanings: one step after another -/
section
variable {α β : Type} {r r' : R α} {k : α → Sl → R β} {kk : α → Sl → Fl} {a b : α} {s s1 s2 s3 : Sl} {x : Xn} {F F' : Fl} {G : Sl → Fl} {d d1 d2 : D} {ds xs : List D} {f g h : Sl → R EV} {c c' : Sl → R Bool} {P Q : Sl → Fl} {i j : Nat} {e e1 e2 : EV} {es : List EV} {fs : List (Sl → R EV)} {o o' : CmpOp}
@[simp] theorem x_bind1 : (R.ok a s).bind k = k a s := rfl
@[simp] theorem x_bind2 : (R.ex x s : R α).bind k = .ex x s := rfl
@[simp] theorem x_bind3 : (R.no : R α).bind k = .no := rfl
@[simp] theorem x_to1 : (R.ok a s).to kk = kk a s := rfl
@[simp] theorem x_to2 : (R.ex x s : R α).to kk = .ex x s := rfl
@[simp] theorem x_to3 : (R.no : R α).to kk = .no := rfl
@[simp] theorem x_seq1 : (Fl.nx s).seq G = G s := rfl
@[simp] theorem x_seq2 : (Fl.rt d s).seq G = .rt d s := rfl
@[simp] theorem x_seq3 : (Fl.bk s).seq G = .bk s := rfl
@[simp] theorem x_seq4 : (Fl.ct s).seq G = .ct s := rfl
@[simp] theorem x_seq5 : (Fl.ex x s).seq G = .ex x s := rfl
@[simp] theorem x_seq6 : (Fl.no).seq G = .no := rfl
@[simp] theorem x_nx : nxS s = .nx s := rfl
@[simp] theorem x_brk : brkS s = .bk s := rfl
@[simp] theorem x_cnt : cntS s = .ct s := rfl
@[simp] theorem x_seqS : seqS P Q s = (P s).seq Q := rfl
@[simp] theorem x_retN : retN s = .rt .non s := rfl
def retO (i : Nat) (s1 : Sl) (o : Option (Option D)) : Fl := match o with
  | some (some d) => .rt d (s1.set i none)
  | _ => .no
def retK (e : EV) (s1 : Sl) : Fl := match e with
  | .val d => .rt d s1
  | .al i => retO i s1 s1[i]?
@[simp] theorem x_ret : retS f s = (f s).to retK := by unfold retS; congr 1
@[simp] theorem x_retK1 : retK (.val d) s = .rt d s := rfl
@[simp] theorem x_retK2 : retK (.al i) s = retO i s s[i]? := rfl
@[simp] theorem x_retO : retO i s (some (some d)) = .rt d (s.set i none) := rfl
def exprK (_ : EV) (s : Sl) : Fl := .nx s
@[simp] theorem x_expr : exprS f s = (f s).to exprK := rfl
@[simp] theorem x_exprK : exprK e s = .nx s := rfl
def ifK (P Q : Sl → Fl) (b : Bool) (s : Sl) : Fl := if b then P s else Q s
@[simp] theorem x_ifS : ifS c P Q s = (c s).to (ifK P Q) := rfl
@[simp] theorem x_ifK1 : ifK P Q true s = P s := rfl
@[simp] theorem x_ifK2 : ifK P Q false s = Q s := rfl
def penK (k : EV → Sl → R β) (e : EV) (s : Sl) : R β := k e.pend s
@[simp] theorem x_pen {k : EV → Sl → R β} : penE f k s = (f s).bind (penK k) := rfl
@[simp] theorem x_pen1 {k : EV → Sl → R β} : penK k (.val d) s = k (.val d.frz) s := rfl
@[simp] theorem x_pen2 {k : EV → Sl → R β} : penK k (.al i) s = k (.al i) s := rfl
def bin1K (g : Sl → R EV) (k : EV → EV → Sl → R β) (e : EV) (s : Sl) : R β := penE g (k e) s
@[simp] theorem x_bin2 {k : EV → EV → Sl → R β} : bin2 f g k s = (f s).bind (penK (bin1K g k)) := rfl
@[simp] theorem x_bin1 {k : EV → EV → Sl → R β} : bin1K g k e s = (g s).bind (penK (k e)) := rfl
@[simp] theorem x_const : constE d s = .ok (.val d) s := rfl
def namK (o : Option (Option D)) (i : Nat) (s : Sl) : R EV := match o with
  | some (some d) => if d.own then .ok (.al i) s else .ok (.val d) s
  | _ => .no
@[simp] theorem x_name : nameE i s = namK s[i]? i s := rfl
@[simp] theorem x_nam1 : namK (some (some d)) i s = cond d.own (.ok (.al i) s) (.ok (.val d) s) := by unfold namK; cases h : d.own <;> simp [h]
def okD (o : Option D) (s : Sl) : R EV := match o with
  | some d => .ok (.val d) s
  | none => .no
@[simp] theorem x_okD : okD (some d) s = .ok (.val d) s := rfl
def o2K (op : D → D → Option D) (o1 o2 : Option D) (s : Sl) : R EV := match o1, o2 with
  | some d1, some d2 => okD (op d1 d2) s
  | _, _ => .no
@[simp] theorem x_op2 {op : D → D → Option D} : op2K op e1 e2 s = o2K op (evR e1 s) (evR e2 s) s := rfl
@[simp] theorem x_o2 {op : D → D → Option D} {d1 d2 : D} : o2K op (some d1) (some d2) s = okD (op d1 d2) s := rfl
def o1K (op : D → Option D) (o1 : Option D) (s : Sl) : R EV := match o1 with
  | some d1 => okD (op d1) s
  | _ => .no
@[simp] theorem x_op1 {op : D → Option D} : op1K op e1 s = o1K op (evR e1 s) s := rfl
@[simp] theorem x_o1 {op : D → Option D} {d1 : D} : o1K op (some d1) s = okD (op d1) s := rfl
@[simp] theorem x_evR1 : evR (.val d) s = some d.frz := rfl
def frzO (o : Option (Option D)) : Option D := match o with
  | some (some d) => some d.frz
  | _ => none
@[simp] theorem x_evR2 : evR (.al i) s = frzO s[i]? := rfl
@[simp] theorem x_frzO : frzO (some (some d)) = some d.frz := rfl
@[simp] theorem x_evV1 : evV (.val d) s = some (d.frz, s) := rfl
def evK (o : Option (Option D)) (i : Nat) (s : Sl) : Option (D × Sl) := match o with
  | some (some d) => some (d.frz, s.set i (some d.frz))
  | _ => none
@[simp] theorem x_evV2 : evV (.al i) s = evK s[i]? i s := rfl
@[simp] theorem x_evK : evK (some (some d)) i s = some (d.frz, s.set i (some d.frz)) := rfl
/-! lists of values -/
def evs2 (d : D) (o : Option (List D × Sl)) : Option (List D × Sl) := match o with
  | some q => some (d :: q.1, q.2)
  | none => none
def evs1 (es : List EV) (o : Option (D × Sl)) : Option (List D × Sl) := match o with
  | some q => evs2 q.1 (evVs es q.2)
  | none => none
@[simp] theorem x_evVs0 : evVs [] s = some ([], s) := rfl
@[simp] theorem x_evVs1 : evVs (e :: es) s = evs1 es (evV e s) := by
  show (evV e s).bind _ = _
  cases evV e s with
  | none => rfl
  | some q =>
    show (evVs es q.2).bind _ = _
    cases h : evVs es q.2 <;> simp only [evs1, evs2, h] <;> rfl
@[simp] theorem x_evs1 {q : D × Sl} : evs1 es (some q) = evs2 q.1 (evVs es q.2) := rfl
@[simp] theorem x_evs2 {q : List D × Sl} : evs2 d (some q) = some (d :: q.1, q.2) := rfl
def args2 (e : EV) (es : List EV) (s : Sl) : R (List EV) := .ok (e :: es) s
def args1 (fs : List (Sl → R EV)) (e : EV) (s : Sl) : R (List EV) := (argsE fs s).bind (args2 e)
@[simp] theorem x_args0 : argsE [] s = .ok [] s := rfl
@[simp] theorem x_argsE : argsE (f :: fs) s = (f s).bind (penK (args1 fs)) := rfl
@[simp] theorem x_args1 : args1 fs e s = (argsE fs s).bind (args2 e) := rfl
@[simp] theorem x_args2 : args2 e es s = .ok (e :: es) s := rfl
def valsO (o : Option (List D × Sl)) : R (List D) := match o with
  | some (ds, s2) => .ok ds s2
  | none => .no
def valsK (es : List EV) (s : Sl) : R (List D) := valsO (evVs es s)
@[simp] theorem x_vals : valsE fs s = (argsE fs s).bind valsK := rfl
@[simp] theorem x_valsK : valsK es s = valsO (evVs es s) := rfl
@[simp] theorem x_valsO : valsO (some (ds, s)) = .ok ds s := rfl
theorem fits_of {n : Nat} (h : n ≤ 16000000) : fits n = true := Nat.ble_eq.mpr h
@[simp] theorem x_tupE {g : Sl → R (List D)} : tupE g s = (g s).bind tupK := rfl
@[simp] theorem x_lstE {g : Sl → R (List D)} : lstE g s = (g s).bind lstK := rfl
@[simp] theorem x_tupK (h : ds.length ≤ 16000000) : tupK ds s = .ok (.val (.tup ds)) s := if_pos (fits_of h)
@[simp] theorem x_lstK (h : ds.length ≤ 16000000) : lstK ds s = .ok (.val (.lst true ds)) s := if_pos (fits_of h)
/-! tests -/
def okB (o : Option Bool) (s : Sl) : R Bool := match o with
  | some b => .ok b s
  | none => .no
@[simp] theorem x_okB {b : Bool} : okB (some b) s = .ok b s := rfl
def cmp1 (o : CmpOp) (o1 o2 : Option D) (s : Sl) : R Bool := match o1, o2 with
  | some d1, some d2 => okB (cmpB o d1 d2) s
  | _, _ => .no
@[simp] theorem x_cmpT : cmpT o f g s = (f s).bind (penK (bin1K g (cmpK o))) := rfl
@[simp] theorem x_cmpK : cmpK o e1 e2 s = cmp1 o (evR e1 s) (evR e2 s) s := by
  unfold cmpK cmp1
  cases evR e1 s <;> cases evR e2 s <;> rfl
@[simp] theorem x_cmp1 : cmp1 o (some d1) (some d2) s = okB (cmpB o d1 d2) s := rfl
def chn2 (h : Sl → R EV) (o' : CmpOp) (e2 : EV) (b : Bool) (s : Sl) : R Bool := if b then penE h (fun e3 s3 => cmpK o' e2 e3 s3) s else .ok false s
def chn1 (h : Sl → R EV) (o o' : CmpOp) (e1 e2 : EV) (s : Sl) : R Bool := (cmpK o e1 e2 s).bind (chn2 h o' e2)
@[simp] theorem x_chain : chainT o o' f g h s = (f s).bind (penK (bin1K g (chn1 h o o'))) := rfl
@[simp] theorem x_chn1 : chn1 h o o' e1 e2 s = (cmpK o e1 e2 s).bind (chn2 h o' e2) := rfl
@[simp] theorem x_chn2t : chn2 h o' e2 true s = (h s).bind (penK (cmpK o' e2)) := rfl
@[simp] theorem x_chn2f : chn2 h o' e2 false s = .ok false s := rfl
def valK (b : Bool) (s : Sl) : R EV := .ok (.val (.bl b)) s
@[simp] theorem x_valB : valB c s = (c s).bind valK := rfl
@[simp] theorem x_valK {b : Bool} : valK b s = .ok (.val (.bl b)) s := rfl
def tru1 (o : Option D) (s : Sl) : R Bool := match o with
  | some d => okB (truD d) s
  | none => .no
@[simp] theorem x_truT : truT f s = (f s).bind (penK truK) := rfl
@[simp] theorem x_truK : truK e s = tru1 (evR e s) s := by
  unfold truK tru1
  cases evR e s <;> rfl
@[simp] theorem x_tru1 : tru1 (some d) s = okB (truD d) s := rfl
def notK (b : Bool) (s : Sl) : R Bool := .ok (!b) s
@[simp] theorem x_notT : notT c s = (c s).bind notK := rfl
@[simp] theorem x_notK {b : Bool} : notK b s = .ok (!b) s := rfl
def andK (c : Sl → R Bool) (b : Bool) (s : Sl) : R Bool := if b then c s else .ok false s
def orK (c : Sl → R Bool) (b : Bool) (s : Sl) : R Bool := if b then .ok true s else c s
@[simp] theorem x_andT : andT c c' s = (c s).bind (andK c') := rfl
@[simp] theorem x_orT : orT c c' s = (c s).bind (orK c') := rfl
@[simp] theorem x_andK1 : andK c true s = c s := rfl
@[simp] theorem x_andK2 : andK c false s = .ok false s := rfl
@[simp] theorem x_orK1 : orK c true s = .ok true s := rfl
@[simp] theorem x_orK2 : orK c false s = c s := rfl
def ifV (f g : Sl → R EV) (b : Bool) (s : Sl) : R EV := if b then f s else g s
@[simp] theorem x_ifE : ifE c f g s = (c s).bind (ifV f g) := rfl
@[simp] theorem x_ifV1 : ifV f g true s = f s := rfl
@[simp] theorem x_ifV2 : ifV f g false s = g s := rfl
def andV (g : Sl → R EV) (e : EV) (s : Sl) : R EV := match e with
  | .val (.bl true) => g s
  | .val (.bl false) => .ok (.val (.bl false)) s
  | .val .non => .ok (.val .non) s
  | .val (.tup (_ :: _)) => g s
  | _ => .no
def orV (g : Sl → R EV) (e : EV) (s : Sl) : R EV := match e with
  | .val (.bl true) => .ok (.val (.bl true)) s
  | .val (.bl false) => g s
  | _ => .no
def notV (e : EV) (s : Sl) : R EV := match e with
  | .val (.bl b) => .ok (.val (.bl (!b))) s
  | _ => .no
@[simp] theorem x_andE : andE f g s = (f s).bind (andV g) := rfl
@[simp] theorem x_orE : orE f g s = (f s).bind (orV g) := rfl
@[simp] theorem x_notE : notE f s = (f s).bind notV := rfl
@[simp] theorem x_andV1 : andV g (.val (.bl true)) s = g s := rfl
@[simp] theorem x_andV2 : andV g (.val (.bl false)) s = .ok (.val (.bl false)) s := rfl
@[simp] theorem x_andV3 : andV g (.val .non) s = .ok (.val .non) s := rfl
@[simp] theorem x_andV4 : andV g (.val (.tup (d :: ds))) s = g s := rfl
@[simp] theorem x_orV1 : orV g (.val (.bl true)) s = .ok (.val (.bl true)) s := rfl
@[simp] theorem x_orV2 : orV g (.val (.bl false)) s = g s := rfl
@[simp] theorem x_notV {b : Bool} : notV (.val (.bl b)) s = .ok (.val (.bl (!b))) s := rfl
/-! indexing -/
def okX (o : Option D) (s : Sl) : R EV := match o with
  | some d => if d.own then .no else .ok (.val d) s
  | none => .no
@[simp] theorem x_okX : okX (some d) s = cond d.own .no (.ok (.val d) s) := by unfold okX; cases h : d.own <;> simp [h]
def ixO (o1 o2 : Option D) (s : Sl) : R EV := match o1, o2 with
  | some d1, some d2 => okX (ixD d1 d2) s
  | _, _ => .no
@[simp] theorem x_ixK : ixK e1 e2 s = ixO (evR e1 s) (evR e2 s) s := by
  unfold ixK ixO okX
  cases evR e1 s <;> cases evR e2 s <;> rfl
@[simp] theorem x_ixO : ixO (some d1) (some d2) s = okX (ixD d1 d2) s := rfl
/-! built-ins -/
def blt1 (op : List D → Option D) (o : Option (List D)) (s : Sl) : R EV := match o with
  | some ds => okD (op ds) s
  | none => .no
@[simp] theorem x_bltE {op : List D → Option D} : bltE op fs s = (argsE fs s).bind (bltK op) := rfl
@[simp] theorem x_bltK {op : List D → Option D} : bltK op es s = blt1 op (rdArgs es s) s := by
  unfold bltK blt1 okD
  cases rdArgs es s <;> rfl
@[simp] theorem x_blt1 {op : List D → Option D} : blt1 op (some ds) s = okD (op ds) s := rfl
def rd2 (d : D) (o : Option (List D)) : Option (List D) := match o with
  | some ds => some (d :: ds)
  | none => none
def rd1 (es : List EV) (s : Sl) (o : Option D) : Option (List D) := match o with
  | some d => rd2 d (rdArgs es s)
  | none => none
@[simp] theorem x_rd0 : rdArgs [] s = some [] := rfl
@[simp] theorem x_rd : rdArgs (e :: es) s = rd1 es s (evR e s) := by
  show (evR e s).bind _ = _
  cases evR e s with
  | none => rfl
  | some q =>
    show (rdArgs es s).bind _ = _
    cases h : rdArgs es s <;> simp only [rd1, rd2, h] <;> rfl
@[simp] theorem x_rd1 : rd1 es s (some d) = rd2 d (rdArgs es s) := rfl
@[simp] theorem x_rd2 : rd2 d (some ds) = some (d :: ds) := rfl
def isi1 (t : TN) (d : D) : Option D := (isTy t d).map .bl
@[simp] theorem x_isiE {t : TN} : isiE t f s = (f s).bind (penK (op1K (isi1 t))) := rfl
def tgB (t : TN) (o : Option Tg) : Option D := match o with
  | some g => some (.bl (t.is g))
  | none => none
@[simp] theorem x_isi1 {t : TN} : isi1 t d = tgB t d.tg := by unfold isi1 isTy tgB; cases d.tg <;> rfl
@[simp] theorem x_tgB {t : TN} {g : Tg} : tgB t (some g) = some (.bl (t.is g)) := rfl
@[simp] theorem x_is_tuple_non : TN.is .tuple .non = false := rfl
@[simp] theorem x_is_tuple_bl : TN.is .tuple .bl = false := rfl
@[simp] theorem x_is_tuple_int : TN.is .tuple .int = false := rfl
@[simp] theorem x_is_tuple_str : TN.is .tuple .str = false := rfl
@[simp] theorem x_is_tuple_tup : TN.is .tuple .tup = true := rfl
@[simp] theorem x_is_tuple_lst : TN.is .tuple .lst = false := rfl
@[simp] theorem x_is_tuple_dct : TN.is .tuple .dct = false := rfl
@[simp] theorem x_is_list_non : TN.is .list .non = false := rfl
@[simp] theorem x_is_list_bl : TN.is .list .bl = false := rfl
@[simp] theorem x_is_list_int : TN.is .list .int = false := rfl
@[simp] theorem x_is_list_str : TN.is .list .str = false := rfl
@[simp] theorem x_is_list_tup : TN.is .list .tup = false := rfl
@[simp] theorem x_is_list_lst : TN.is .list .lst = true := rfl
@[simp] theorem x_is_list_dct : TN.is .list .dct = false := rfl
@[simp] theorem x_is_int_non : TN.is .int .non = false := rfl
@[simp] theorem x_is_int_bl : TN.is .int .bl = true := rfl
@[simp] theorem x_is_int_int : TN.is .int .int = true := rfl
@[simp] theorem x_is_int_str : TN.is .int .str = false := rfl
@[simp] theorem x_is_int_tup : TN.is .int .tup = false := rfl
@[simp] theorem x_is_int_lst : TN.is .int .lst = false := rfl
@[simp] theorem x_is_int_dct : TN.is .int .dct = false := rfl
@[simp] theorem x_is_bool_non : TN.is .bool .non = false := rfl
@[simp] theorem x_is_bool_bl : TN.is .bool .bl = true := rfl
@[simp] theorem x_is_bool_int : TN.is .bool .int = false := rfl
@[simp] theorem x_is_bool_str : TN.is .bool .str = false := rfl
@[simp] theorem x_is_bool_tup : TN.is .bool .tup = false := rfl
@[simp] theorem x_is_bool_lst : TN.is .bool .lst = false := rfl
@[simp] theorem x_is_bool_dct : TN.is .bool .dct = false := rfl
@[simp] theorem x_is_str_non : TN.is .str .non = false := rfl
@[simp] theorem x_is_str_bl : TN.is .str .bl = false := rfl
@[simp] theorem x_is_str_int : TN.is .str .int = false := rfl
@[simp] theorem x_is_str_str : TN.is .str .str = true := rfl
@[simp] theorem x_is_str_tup : TN.is .str .tup = false := rfl
@[simp] theorem x_is_str_lst : TN.is .str .lst = false := rfl
@[simp] theorem x_is_str_dct : TN.is .str .dct = false := rfl
@[simp] theorem x_is_dict_non : TN.is .dict .non = false := rfl
@[simp] theorem x_is_dict_bl : TN.is .dict .bl = false := rfl
@[simp] theorem x_is_dict_int : TN.is .dict .int = false := rfl
@[simp] theorem x_is_dict_str : TN.is .dict .str = false := rfl
@[simp] theorem x_is_dict_tup : TN.is .dict .tup = false := rfl
@[simp] theorem x_is_dict_lst : TN.is .dict .lst = false := rfl
@[simp] theorem x_is_dict_dct : TN.is .dict .dct = true := rfl
@[simp] theorem x_tg1 : D.tg .non = some .non := rfl
@[simp] theorem x_tg2 {b : Bool} : D.tg (.bl b) = some .bl := rfl
@[simp] theorem x_tg3 {n : Int} : D.tg (.int n) = some .int := rfl
@[simp] theorem x_tg4 {z : Str} : D.tg (.str z) = some .str := rfl
@[simp] theorem x_tg5 : D.tg (.tup xs) = some .tup := rfl
@[simp] theorem x_tg6 {b : Bool} : D.tg (.lst b xs) = some .lst := rfl
@[simp] theorem x_tg7 : D.tg (.ro xs) = some .lst := rfl
/-! statements that store -/
def setO (i j : Nat) (s : Sl) (o : Option (Option D)) : Fl := match o with
  | some (some d) => if Nat.blt i s.length then .nx ((s.set j (some d.frz)).set i (some d.frz)) else .no
  | _ => .no
def setK (i : Nat) (e : EV) (s : Sl) : Fl := match e with
  | .val d => if Nat.blt i s.length then .nx (s.set i (some d)) else .no
  | .al j => setO i j s s[j]?
@[simp] theorem x_setS : setS i f s = (f s).to (setK i) := by
  unfold setS
  congr 1
@[simp] theorem x_setK1 (h : i < s.length) : setK i (.val d) s = .nx (s.set i (some d)) := if_pos (Nat.blt_eq.mpr h)
@[simp] theorem x_setK2 : setK i (.al j) s = setO i j s s[j]? := rfl
@[simp] theorem x_setO (h : i < s.length) : setO i j s (some (some d)) = .nx ((s.set j (some d.frz)).set i (some d.frz)) := if_pos (Nat.blt_eq.mpr h)
def asg2 (o : Option Sl) : Fl := match o with
  | some s3 => .nx s3
  | none => .no
def asg1 (tg : D → Sl → Option Sl) (o : Option (D × Sl)) : Fl := match o with
  | some q => asg2 (tg q.1 q.2)
  | none => .no
def asgK (tg : D → Sl → Option Sl) (e : EV) (s : Sl) : Fl := asg1 tg (evV e s)
def okE (e : EV) (s : Sl) : R EV := .ok e s
@[simp] theorem x_okE : okE e s = .ok e s := rfl
@[simp] theorem x_asgS {tg : D → Sl → Option Sl} : asgS tg f s = ((f s).bind (penK okE)).to (asgK tg) := by
  unfold asgS
  show ((f s).bind _).to _ = ((f s).bind _).to _
  congr 1
  funext e s1
  unfold asgK asg1 asg2
  cases evV e s1 with
  | none => rfl
  | some q => rfl
@[simp] theorem x_asgK {tg : D → Sl → Option Sl} : asgK tg e s = asg1 tg (evV e s) := rfl
@[simp] theorem x_asg1 {tg : D → Sl → Option Sl} {q : D × Sl} : asg1 tg (some q) = asg2 (tg q.1 q.2) := rfl
@[simp] theorem x_asg2 : asg2 (some s) = .nx s := rfl
@[simp] theorem x_tgN (h : i < s.length) : tgN i d s = some (s.set i (some d)) := if_pos (Nat.blt_eq.mpr h)
def sto6 (i : Nat) (d : D) (s : Sl) (xs : List D) (o : Option Nat) : R Unit := match o with
  | some j => .ok () (s.set i (some (.lst true (xs.set j d))))
  | none => .no
def sto5 (i : Nat) (d : D) (s : Sl) (o1 : Option D) (o2 : Option (Option D)) : R Unit := match o1, o2 with
  | some (.int k), some (some (.lst true xs)) => sto6 i d s xs (ixN xs.length k)
  | _, _ => .no
def sto4 (i : Nat) (ei : EV) (o : Option (D × Sl)) : R Unit := match o with
  | some q => sto5 i q.1 q.2 (evR ei q.2) q.2[i]?
  | none => .no
def sto3 (i : Nat) (ev ei : EV) (s : Sl) : R Unit := sto4 i ei (evV ev s)
def sto2 (i : Nat) (fi : Sl → R EV) (ev : EV) (s : Sl) (o : Option (Option D)) : R Unit := match o with
  | some (some (.lst true _)) => penE fi (sto3 i ev) s
  | _ => .no
def sto1 (i : Nat) (fi : Sl → R EV) (ev : EV) (s : Sl) : R Unit := sto2 i fi ev s s[i]?
def nxU (_ : Unit) (s : Sl) : Fl := .nx s
@[simp] theorem x_nxU {u : Unit} : nxU u s = .nx s := rfl
@[simp] theorem x_stoS : stoS i f g s = ((g s).bind (penK (sto1 i f))).to nxU := by
  have e3 : ∀ ev, (fun (ei : EV) (s2 : Sl) => (match evV ev s2 with
    | some (d, s3) => match evR ei s3, s3[i]? with
      | some (.int k), some (some (.lst true xs)) => match ixN xs.length k with
        | some j => R.ok () (s3.set i (some (.lst true (xs.set j d))))
        | none => .no
      | _, _ => .no
    | none => .no : R Unit)) = sto3 i ev := by
    intro ev
    funext ei s2
    unfold sto3 sto4
    generalize evV ev s2 = o
    cases o with
    | none => rfl
    | some q =>
      obtain ⟨d, s3⟩ := q
      unfold sto5 sto6
      dsimp only
  have e1 : (fun (ev : EV) (s1 : Sl) => (match s1[i]? with
  | some (some (.lst true _)) => penE f (fun ei s2 => match evV ev s2 with
    | some (d, s3) => match evR ei s3, s3[i]? with
      | some (.int k), some (some (.lst true xs)) => match ixN xs.length k with
        | some j => R.ok () (s3.set i (some (.lst true (xs.set j d))))
        | none => .no
      | _, _ => .no
    | none => .no) s1
  | _ => .no)) = sto1 i f := by
    funext ev s1
    unfold sto1 sto2
    generalize s1[i]? = o
    rcases o with _ | _ | dd
    · rfl
    · rfl
    · cases dd <;> try rfl
      rename_i b xs
      cases b
      · rfl
      · dsimp only
        rw [e3]
  exact congrArg (fun k => (penE g k s).to nxU) e1
@[simp] theorem x_sto1 : sto1 i f e s = sto2 i f e s s[i]? := rfl
@[simp] theorem x_sto2 : sto2 i f e s (some (some (.lst true ds))) = (f s).bind (penK (sto3 i e)) := rfl
@[simp] theorem x_sto3 : sto3 i e1 e2 s = sto4 i e2 (evV e1 s) := rfl
@[simp] theorem x_sto4 {q : D × Sl} : sto4 i e (some q) = sto5 i q.1 q.2 (evR e q.2) q.2[i]? := rfl
@[simp] theorem x_sto5 {k : Int} : sto5 i d s (some (.int k)) (some (some (.lst true xs))) = sto6 i d s xs (ixN xs.length k) := rfl
@[simp] theorem x_sto6 : sto6 i d s xs (some j) = .ok () (s.set i (some (.lst true (xs.set j d)))) := rfl
/-! lists that grow -/
def app4 (i : Nat) (d : D) (s : Sl) (o : Option (Option D)) : R EV := match o with
  | some (some (.lst true xs)) => if fits (xs.length + 1) then .ok (.val .non) (s.set i (some (.lst true (xs ++ [d])))) else .no
  | _ => .no
def app3 (i : Nat) (o : Option (D × Sl)) : R EV := match o with
  | some q => app4 i q.1 q.2 q.2[i]?
  | none => .no
def app2 (i : Nat) (e : EV) (s : Sl) : R EV := app3 i (evV e s)
def app1 (i : Nat) (f : Sl → R EV) (s : Sl) (o : Option (Option D)) : R EV := match o with
  | some (some (.lst true _)) => penE f (app2 i) s
  | _ => .no
@[simp] theorem x_appE : appE i f s = app1 i f s s[i]? := by
  have e : (fun (ev : EV) (s1 : Sl) => (match evV ev s1 with
    | some (d, s2) => match s2[i]? with
      | some (some (.lst true xs)) => if fits (xs.length + 1) then R.ok (EV.val .non) (s2.set i (some (.lst true (xs ++ [d])))) else .no
      | _ => .no
    | none => .no)) = app2 i := by
    funext ev s1
    unfold app2 app3
    cases evV ev s1 with
    | none => rfl
    | some q => rfl
  unfold appE app1
  rw [← e]
  try rfl
@[simp] theorem x_app1 : app1 i f s (some (some (.lst true ds))) = (f s).bind (penK (app2 i)) := rfl
@[simp] theorem x_app2 : app2 i e s = app3 i (evV e s) := rfl
@[simp] theorem x_app3 {q : D × Sl} : app3 i (some q) = app4 i q.1 q.2 q.2[i]? := rfl
@[simp] theorem x_app4 (h : xs.length < 16000000) : app4 i d s (some (some (.lst true xs))) = .ok (.val .non) (s.set i (some (.lst true (xs ++ [d])))) := if_pos (fits_of h)
def ext3 (i : Nat) (s : Sl) (ys : List D) (o : Option (Option D)) : R EV := match o with
  | some (some (.lst true xs)) => if fits (xs.length + ys.length) then .ok (.val .non) (s.set i (some (.lst true (xs ++ ys)))) else .no
  | _ => .no
def ext4 (i : Nat) (s : Sl) (o : Option (List D)) : R EV := match o with
  | some ys => ext3 i s ys s[i]?
  | none => .no
def ext5 (o : Option D) : Option (List D) := match o with
  | some d => d.items
  | none => none
def ext2 (i : Nat) (e : EV) (s : Sl) : R EV := ext4 i s (ext5 (evR e s))
def ext1 (i : Nat) (f : Sl → R EV) (s : Sl) (o : Option (Option D)) : R EV := match o with
  | some (some (.lst true _)) => penE f (ext2 i) s
  | _ => .no
@[simp] theorem x_extE : extE i f s = ext1 i f s s[i]? := by
  have e : (fun (ev : EV) (s1 : Sl) => (match (evR ev s1).bind D.items with
    | some ys => match s1[i]? with
      | some (some (.lst true xs)) => if fits (xs.length + ys.length) then R.ok (EV.val .non) (s1.set i (some (.lst true (xs ++ ys)))) else .no
      | _ => .no
    | none => .no)) = ext2 i := by
    funext ev s1
    unfold ext2 ext4 ext5
    cases evR ev s1 with
    | none => rfl
    | some q => rfl
  unfold extE ext1
  rw [← e]
  try rfl
@[simp] theorem x_ext1 : ext1 i f s (some (some (.lst true ds))) = (f s).bind (penK (ext2 i)) := rfl
@[simp] theorem x_ext2 : ext2 i e s = ext4 i s (ext5 (evR e s)) := rfl
@[simp] theorem x_ext5 : ext5 (some d) = d.items := rfl
@[simp] theorem x_items {b : Bool} : D.items (.lst b xs) = some xs := rfl
@[simp] theorem x_ext4 : ext4 i s (some ds) = ext3 i s ds s[i]? := rfl
@[simp] theorem x_ext3 (h : xs.length + ds.length ≤ 16000000) : ext3 i s ds (some (some (.lst true xs))) = .ok (.val .non) (s.set i (some (.lst true (xs ++ ds)))) := if_pos (fits_of h)
/-! slices -/
def sl4 (l u : Option Int) (s : Sl) (o : Option D) : R EV := match o with
  | some d => okD (slD d l u) s
  | none => .no
def sl3 (e : EV) (l u : Option Int) (s : Sl) : R EV := sl4 l u s (evR e s)
def sl2 (hi : Option (Sl → R EV)) (e : EV) (l : Option Int) (s : Sl) : R EV := (partE hi s).bind (sl3 e l)
def sl1 (lo hi : Option (Sl → R EV)) (e : EV) (s : Sl) : R EV := (partE lo s).bind (sl2 hi e)
@[simp] theorem x_slE {lo hi : Option (Sl → R EV)} : slE f lo hi s = (f s).bind (penK (sl1 lo hi)) := by
  have e : (fun (e : EV) (s : Sl) => (partE lo s).bind fun l s1 => (partE hi s1).bind fun u s2 => (match evR e s2 with
  | some d => match slD d l u with
    | some d' => R.ok (EV.val d') s2
    | none => .no
  | none => .no)) = sl1 lo hi := by
    funext e s
    unfold sl1
    congr 1
  show penE f _ s = _
  exact congrArg (fun k => penE f k s) e
@[simp] theorem x_sl1 {lo hi : Option (Sl → R EV)} : sl1 lo hi e s = (partE lo s).bind (sl2 hi e) := rfl
@[simp] theorem x_sl2 {hi : Option (Sl → R EV)} {l : Option Int} : sl2 hi e l s = (partE hi s).bind (sl3 e l) := rfl
@[simp] theorem x_sl3 {l u : Option Int} : sl3 e l u s = sl4 l u s (evR e s) := rfl
@[simp] theorem x_sl4 {l u : Option Int} : sl4 l u s (some d) = okD (slD d l u) s := rfl
def prt2 (s : Sl) (o : Option D) : R (Option Int) := match o with
  | some (.int i) => .ok (some i) s
  | _ => .no
def prt1 (e : EV) (s : Sl) : R (Option Int) := prt2 s (evR e s)
@[simp] theorem x_part0 : partE none s = .ok none s := rfl
@[simp] theorem x_part1 : partE (some f) s = (f s).bind (penK prt1) := rfl
@[simp] theorem x_prt1 : prt1 e s = prt2 s (evR e s) := rfl
@[simp] theorem x_prt2 {n : Int} : prt2 s (some (.int n)) = .ok (some n) s := rfl
@[simp] theorem x_slD1 {l u : Option Int} : slD (.tup xs) l u = some (.tup (cutD xs l u)) := rfl
@[simp] theorem x_slD3 {z : Str} {l u : Option Int} (h : z.length ≤ 16000000) : slD (.str z) l u = some (.str (cutS z l u)) := if_pos (fits_of h)
@[simp] theorem x_slD2 {b : Bool} {l u : Option Int} : slD (.lst b xs) l u = some (.lst true (cutD xs l u)) := rfl
/-! more walks -/
def rngF (e1 e2 : EV) (s : Sl) : R (List D) := intK (fun i s => intK (fun j s => if decide (j ≤ 1000000000) && decide (-1000000000 ≤ j) && decide (i ≤ 1000000000) && decide (-1000000000 ≤ i) then .ok (upto i (j - i).toNat) s else .no) e2 s) e1 s
@[simp] theorem x_rng2 : rng2 f g s = (f s).bind (penK (bin1K g rngF)) := rfl
theorem x_rngF {i j : Int} (h1 : evR e1 s = some (.int i)) (h2 : evR e2 s = some (.int j)) (h3 : j ≤ 1000000000) (h4 : -1000000000 ≤ j) (h5 : i ≤ 1000000000) (h6 : -1000000000 ≤ i) : rngF e1 e2 s = .ok (upto i (j - i).toNat) s := by
  unfold rngF intK
  rw [h1]
  dsimp only
  rw [h2]
  dsimp only
  rw [decide_eq_true h3, decide_eq_true h4, decide_eq_true h5, decide_eq_true h6]
  rfl
@[simp] theorem x_rngF' {m n : Int} (h3 : n ≤ 1000000000) (h4 : -1000000000 ≤ n) (h5 : m ≤ 1000000000) (h6 : -1000000000 ≤ m) : rngF (.val (.int m)) (.val (.int n)) s = .ok (upto m (n - m).toNat) s := x_rngF rfl rfl h3 h4 h5 h6
def enumO (o : Option (D × Sl)) : R (List D) := match o with
  | some (.lst _ xs, s1) => .ok (enumL 0 xs) s1
  | _ => .no
def enumK (e : EV) (s : Sl) : R (List D) := enumO (evV e s)
@[simp] theorem x_enumI : enumI f s = (f s).bind (penK enumK) := by
  show penE f _ s = _
  have e : (fun (e : EV) (s : Sl) => (match evV e s with
  | some (.lst _ xs, s1) => R.ok (enumL 0 xs) s1
  | _ => .no)) = enumK := by
    funext e s
    unfold enumK enumO
    cases evV e s with
    | none => rfl
    | some q => rfl
  exact congrArg (fun k => penE f k s) e
@[simp] theorem x_enumK : enumK e s = enumO (evV e s) := rfl
@[simp] theorem x_enumO {b : Bool} : enumO (some (.lst b xs, s)) = .ok (enumL 0 xs) s := rfl
/-! stars -/
def stx2 (ds : List D) (es : List EV) (s : Sl) : R (List EV) := .ok (ds.map EV.val ++ es) s
def stx1 (k : Sl → R (List EV)) (s : Sl) (o : Option (List D)) : R (List EV) := match o with
  | some ds => if plainL ds then (k s).bind (stx2 ds) else .no
  | none => .no
def stx3 (o : Option D) : Option (List D) := match o with
  | some d => d.its
  | none => none
@[simp] theorem x_starK {k : Sl → R (List EV)} : starK k e s = stx1 k s (stx3 (evR e s)) := by
  unfold starK stx1 stx3
  cases evR e s <;> rfl
@[simp] theorem x_stx3 : stx3 (some d) = d.its := rfl
@[simp] theorem x_its1 {b : Bool} : D.its (.lst b xs) = some xs := rfl
@[simp] theorem x_its2 : D.its (.tup xs) = some xs := rfl
@[simp] theorem x_stx1 {k : Sl → R (List EV)} (h : plainL ds = true) : stx1 k s (some ds) = (k s).bind (stx2 ds) := if_pos h
@[simp] theorem x_stx2 : stx2 ds es s = .ok (ds.map EV.val ++ es) s := rfl
def arx1 (fs : List (Bool × (Sl → R EV))) (e : EV) (s : Sl) : R (List EV) := (argsX fs s).bind (args2 e)
@[simp] theorem x_argsX0 : argsX [] s = .ok [] s := rfl
@[simp] theorem x_argsX1 {fs : List (Bool × (Sl → R EV))} : argsX ((false, f) :: fs) s = (f s).bind (penK (arx1 fs)) := rfl
@[simp] theorem x_argsX2 {fs : List (Bool × (Sl → R EV))} : argsX ((true, f) :: fs) s = (f s).bind (penK (starK (argsX fs))) := rfl
@[simp] theorem x_arx1 {fs : List (Bool × (Sl → R EV))} : arx1 fs e s = (argsX fs s).bind (args2 e) := rfl
@[simp] theorem x_valsX {fs : List (Bool × (Sl → R EV))} : valsX fs s = (argsX fs s).bind valsK := rfl
/-! calls -/
def calK (pins : List Bool) (F : Fl) : CR := match F with
  | .rt d s => .ok d (maskP pins s)
  | .nx s => .ok .non (maskP pins s)
  | .ex x s => .ex x (maskP pins s)
  | _ => .no
theorem x_calOf {n : Nat} {pins : List Bool} : calOf P n pins ds = calK pins (P (begS n ds)) := rfl
@[simp] theorem x_calK1 {pins : List Bool} : calK pins (.rt d s) = .ok d (maskP pins s) := rfl
@[simp] theorem x_calK2 {pins : List Bool} : calK pins (.nx s) = .ok .non (maskP pins s) := rfl
@[simp] theorem x_calK3 {pins : List Bool} : calK pins (.ex x s) = .ex x (maskP pins s) := rfl
@[simp] theorem x_mask0 : maskP [] s = [] := by cases s <;> rfl
@[simp] theorem x_mask1 {pins : List Bool} {o : Option D} : maskP (true :: pins) (o :: s) = o :: maskP pins s := rfl
@[simp] theorem x_mask2 {pins : List Bool} {o : Option D} : maskP (false :: pins) (o :: s) = none :: maskP pins s := rfl
def cll2 (pins : List Bool) (es : List EV) (s : Sl) (c : CR) : R EV := match c with
  | .ok d ds' => if Nat.beq ds'.length pins.length then .ok (.val d) (giveA pins es ds' s) else .no
  | .ex x ds' => if Nat.beq ds'.length pins.length then .ex x (giveA pins es ds' s) else .no
  | .no => .no
def cll1 (cal : List D → CR) (pins : List Bool) (es : List EV) (o : Option (List D × Sl)) : R EV := match o with
  | none => .no
  | some q => cll2 pins es q.2 (cal q.1)
@[simp] theorem x_callE {cal : List D → CR} {pins : List Bool} : callE cal pins fs s = (argsE fs s).bind (callK cal pins) := rfl
@[simp] theorem x_callK {cal : List D → CR} {pins : List Bool} : callK cal pins es s = cll1 cal pins es (takeA pins es s) := by
  unfold callK cll1 cll2
  cases takeA pins es s with
  | none => rfl
  | some q => cases h : cal q.1 <;> simp only [h]
@[simp] theorem x_cll1 {cal : List D → CR} {pins : List Bool} {q : List D × Sl} : cll1 cal pins es (some q) = cll2 pins es q.2 (cal q.1) := rfl
@[simp] theorem x_cll2 {pins : List Bool} {s' : Sl} (h : s'.length = pins.length) : cll2 pins es s (.ok d s') = .ok (.val d) (giveA pins es s' s) := if_pos (by rw [h]; exact Nat.beq_refl _)
@[simp] theorem x_cll3 {pins : List Bool} {s' : Sl} (h : s'.length = pins.length) : cll2 pins es s (.ex x s') = .ex x (giveA pins es s' s) := if_pos (by rw [h]; exact Nat.beq_refl _)
def tak2 (d : D) (o : Option (List D × Sl)) : Option (List D × Sl) := match o with
  | some q => some (d :: q.1, q.2)
  | none => none
def tak1 (ps : List Bool) (es : List EV) (o : Option (D × Sl)) : Option (List D × Sl) := match o with
  | some q => tak2 q.1 (takeA ps es q.2)
  | none => none
theorem x_takC {ps : List Bool} {p : Bool} : takeA (p :: ps) (e :: es) s = tak1 ps es (if p then takeE e s else evV e s) := by
  show (if p then takeE e s else evV e s).bind _ = _
  cases (if p then takeE e s else evV e s) with
  | none => rfl
  | some q =>
    show (takeA ps es q.2).bind _ = _
    cases h : takeA ps es q.2 <;> simp only [tak1, tak2, h] <;> rfl
@[simp] theorem x_tak0 : takeA [] [] s = some ([], s) := rfl
@[simp] theorem x_takT {ps : List Bool} : takeA (true :: ps) (e :: es) s = tak1 ps es (takeE e s) := x_takC
@[simp] theorem x_takF {ps : List Bool} : takeA (false :: ps) (e :: es) s = tak1 ps es (evV e s) := x_takC
@[simp] theorem x_tak1 {ps : List Bool} {q : D × Sl} : tak1 ps es (some q) = tak2 q.1 (takeA ps es q.2) := rfl
@[simp] theorem x_tak2 {q : List D × Sl} : tak2 d (some q) = some (d :: q.1, q.2) := rfl
def takO (i : Nat) (s : Sl) (o : Option (Option D)) : Option (D × Sl) := match o with
  | some (some d) => some (d, s.set i none)
  | _ => none
@[simp] theorem x_takeE1 : takeE (.val d) s = some (d.frz, s) := rfl
@[simp] theorem x_takeE2 : takeE (.al i) s = takO i s s[i]? := rfl
@[simp] theorem x_takO : takO i s (some (some d)) = some (d, s.set i none) := rfl
@[simp] theorem x_giv0 : giveA [] es s s1 = s1 := by cases es <;> rfl
@[simp] theorem x_giv1 {ps : List Bool} {o : Option D} : giveA (true :: ps) (.al i :: es) (o :: s) s1 = giveA ps es s (s1.set i o) := rfl
@[simp] theorem x_giv2 {ps : List Bool} {o : Option D} : giveA (false :: ps) (.al i :: es) (o :: s) s1 = giveA ps es s s1 := rfl
@[simp] theorem x_giv3 {ps : List Bool} {p : Bool} {o : Option D} : giveA (p :: ps) (.val d :: es) (o :: s) s1 = giveA ps es s s1 := by cases p <;> rfl
/-! loops -/
@[simp] theorem x_forS {gi : Sl → R (List D)} {tg : D → Sl → Option Sl} : forS gi tg P s = (gi s).to (forL (stepS tg P)) := rfl
@[simp] theorem x_forL0 {st : D → Sl → Fl} : forL st [] s = .nx s := rfl
def for1 (st : D → Sl → Fl) (ds : List D) (F : Fl) : Fl := match F with
  | .nx s1 => forL st ds s1
  | .ct s1 => forL st ds s1
  | .bk s1 => .nx s1
  | r => r
theorem x_forL {st : D → Sl → Fl} : forL st (d :: ds) s = for1 st ds (st d s) := by
  show (match st d s with
    | .nx s1 => forL st ds s1
    | .ct s1 => forL st ds s1
    | .bk s1 => .nx s1
    | r => r) = _
  cases st d s <;> rfl
@[simp] theorem x_for1 {st : D → Sl → Fl} : for1 st ds (.nx s) = forL st ds s := rfl
@[simp] theorem x_for2 {st : D → Sl → Fl} : for1 st ds (.ct s) = forL st ds s := rfl
@[simp] theorem x_for3 {st : D → Sl → Fl} : for1 st ds (.bk s) = .nx s := rfl
@[simp] theorem x_for4 {st : D → Sl → Fl} : for1 st ds (.rt d s) = .rt d s := rfl
@[simp] theorem x_for5 {st : D → Sl → Fl} : for1 st ds (.ex x s) = .ex x s := rfl
def stp1 (P : Sl → Fl) (o : Option Sl) : Fl := match o with
  | some s1 => P s1
  | none => .no
@[simp] theorem x_stepS {tg : D → Sl → Option Sl} : stepS tg P d s = stp1 P (tg d s) := by unfold stepS stp1; cases tg d s <;> rfl
@[simp] theorem x_stp1 : stp1 P (some s) = P s := rfl
def intO (k : Int → Sl → R β) (s : Sl) (o : Option D) : R β := match o with
  | some (.int i) => k i s
  | _ => .no
@[simp] theorem x_intK {k : Int → Sl → R β} : intK k e s = intO k s (evR e s) := by unfold intK intO; cases evR e s <;> rfl
@[simp] theorem x_intO {k : Int → Sl → R β} {n : Int} : intO k s (some (.int n)) = k n s := rfl
def rngK (j : Int) (s : Sl) : R (List D) := if decide (j ≤ 1000000000) && decide (-1000000000 ≤ j) then .ok (upto 0 j.toNat) s else .no
@[simp] theorem x_rng1 : rng1 f s = (f s).bind (penK (intK rngK)) := rfl
@[simp] theorem x_rngK {j : Int} (h : j ≤ 1000000000) (h' : -1000000000 ≤ j) : rngK j s = .ok (upto 0 j.toNat) s := by
  unfold rngK
  rw [decide_eq_true h, decide_eq_true h']
  rfl
def pl1 (ds : List D) (s : Sl) : R (List D) := if plainL ds then .ok ds s else .no
@[simp] theorem x_plI {g : Sl → R (List D)} : plI g s = (g s).bind pl1 := rfl
@[simp] theorem x_pl1 (h : plainL ds = true) : pl1 ds s = .ok ds s := if_pos h
@[simp] theorem x_plain0 : plainL [] = true := rfl
@[simp] theorem x_plain1 : plainL (d :: ds) = (!d.own && plainL ds) := rfl
@[simp] theorem x_seqI : seqI f s = (f s).bind (penK seqItems) := rfl
def itO (o : Option (D × Sl)) : R (List D) := match o with
  | some (.lst _ xs, s1) => .ok xs s1
  | some (.ro xs, s1) => .ok xs s1
  | some (.tup xs, s1) => .ok xs s1
  | some (.str x, s1) => .ok (x.cps.toList.map fun c => .str ⟨#[c]⟩) s1
  | _ => .no
@[simp] theorem x_seqItems : seqItems e s = itO (evV e s) := by unfold seqItems itO; split <;> simp_all
@[simp] theorem x_itO1 {o : Bool} : itO (some (.lst o xs, s)) = .ok xs s := rfl
@[simp] theorem x_itO2 : itO (some (.ro xs, s)) = .ok xs s := rfl
@[simp] theorem x_itO3 : itO (some (.tup xs, s)) = .ok xs s := rfl
@[simp] theorem x_itO4 {x : Str} : itO (some (.str x, s)) = .ok (x.cps.toList.map fun c => .str ⟨#[c]⟩) s := rfl
def lcN (vs : List Nat) (acc : List D) (s : Sl) : R EV := .ok (.val (.lst true acc)) (wipeS s vs)
def lc0 (tt : D → Sl → Option Sl) (vs : List Nat) (c : Sl → R Bool) (f : Sl → R EV) (ds : List D) (s : Sl) : R EV := (lcL tt vs c f ds s []).bind (lcN vs)
@[simp] theorem x_lc0 {tt : D → Sl → Option Sl} {vs : List Nat} : lc0 tt vs c f ds s = (lcL tt vs c f ds s []).bind (lcN vs) := rfl
@[simp] theorem x_lcN {vs : List Nat} : lcN vs ds s = .ok (.val (.lst true ds)) (wipeS s vs) := rfl
@[simp] theorem x_lcL0 {tt : D → Sl → Option Sl} {vs : List Nat} : lcL tt vs c f [] s xs = .ok xs s := rfl
def lc4 (tt : D → Sl → Option Sl) (vs : List Nat) (c : Sl → R Bool) (f : Sl → R EV) (ds acc : List D) (o : Option (D × Sl)) : R (List D) := match o with
  | some q => if fits (acc.length + 1) then lcL tt vs c f ds q.2 (acc ++ [q.1]) else .no
  | none => .no
def lc3 (tt : D → Sl → Option Sl) (vs : List Nat) (c : Sl → R Bool) (f : Sl → R EV) (ds acc : List D) (r : R EV) : R (List D) := match r with
  | .ok e s3 => lc4 tt vs c f ds acc (evV e s3)
  | _ => .no
def lc2 (tt : D → Sl → Option Sl) (vs : List Nat) (c : Sl → R Bool) (f : Sl → R EV) (ds acc : List D) (r : R Bool) : R (List D) := match r with
  | .ok true s2 => lc3 tt vs c f ds acc ((f s2).bind (penK okE))
  | .ok false s2 => lcL tt vs c f ds s2 acc
  | _ => .no
def lc1 (tt : D → Sl → Option Sl) (vs : List Nat) (c : Sl → R Bool) (f : Sl → R EV) (ds acc : List D) (o : Option Sl) : R (List D) := match o with
  | some s1 => lc2 tt vs c f ds acc (c s1)
  | none => .no
@[simp] theorem x_lc1 {tt : D → Sl → Option Sl} {vs : List Nat} {acc : List D} : lc1 tt vs c f ds acc (some s) = lc2 tt vs c f ds acc (c s) := rfl
@[simp] theorem x_lc2t {tt : D → Sl → Option Sl} {vs : List Nat} {acc : List D} : lc2 tt vs c f ds acc (.ok true s) = lc3 tt vs c f ds acc ((f s).bind (penK okE)) := rfl
@[simp] theorem x_lc2f {tt : D → Sl → Option Sl} {vs : List Nat} {acc : List D} : lc2 tt vs c f ds acc (.ok false s) = lcL tt vs c f ds s acc := rfl
@[simp] theorem x_lc3 {tt : D → Sl → Option Sl} {vs : List Nat} {acc : List D} : lc3 tt vs c f ds acc (.ok e s) = lc4 tt vs c f ds acc (evV e s) := rfl
@[simp] theorem x_lc4 {tt : D → Sl → Option Sl} {vs : List Nat} {acc : List D} {q : D × Sl} (h : acc.length < 16000000) : lc4 tt vs c f ds acc (some q) = lcL tt vs c f ds q.2 (acc ++ [q.1]) := if_pos (fits_of h)
@[simp] theorem x_yes : yesT s = .ok true s := rfl
@[simp] theorem x_wipe0 : wipeS s [] = s := rfl
@[simp] theorem x_wipe1 {v : Nat} {vs : List Nat} : wipeS s (v :: vs) = (wipeS s vs).set v none := rfl
@[simp] theorem x_tgT {is : List Nat} (h : (xs.all fun d => !d.own) = true) : tgT' is (.tup xs) s = tgNs is xs s := if_pos h
@[simp] theorem x_tgs0 : tgNs [] [] s = some s := rfl
def tg1 (is : List Nat) (ds : List D) (o : Option Sl) : Option Sl := match o with
  | some s => tgNs is ds s
  | none => none
@[simp] theorem x_tgs1 {is : List Nat} : tgNs (i :: is) (d :: ds) s = tg1 is ds (tgN i d s) := by
  show (tgN i d s).bind _ = _
  cases tgN i d s <;> rfl
@[simp] theorem x_tg1' {is : List Nat} : tg1 is ds (some s) = tgNs is ds s := rfl
/-! values -/
@[simp] theorem x_own1 : D.own .non = false := rfl
@[simp] theorem x_own2 {b : Bool} : D.own (.bl b) = false := rfl
@[simp] theorem x_own3 {n : Int} : D.own (.int n) = false := rfl
@[simp] theorem x_own4 {z : Str} : D.own (.str z) = false := rfl
@[simp] theorem x_own5 : D.own (.tup xs) = false := rfl
@[simp] theorem x_own6 {b : Bool} : D.own (.lst b xs) = b := rfl
@[simp] theorem x_own7 : D.own (.ro xs) = false := rfl
@[simp] theorem x_own8 {b : Bool} {ks : List Key} : D.own (.dct b ks xs) = b := rfl
@[simp] theorem x_own9 {b : Bool} {n : Nat} {ks : List Str} : D.own (.obj b n ks xs) = b := rfl
@[simp] theorem x_frz1 : D.frz .non = .non := rfl
@[simp] theorem x_frz2 {b : Bool} : D.frz (.bl b) = .bl b := rfl
@[simp] theorem x_frz3 {n : Int} : D.frz (.int n) = .int n := rfl
@[simp] theorem x_frz4 {z : Str} : D.frz (.str z) = .str z := rfl
@[simp] theorem x_frz5 : D.frz (.tup xs) = .tup xs := rfl
@[simp] theorem x_frz6 {b : Bool} : D.frz (.lst b xs) = .lst false xs := by simp only [D.frz]
@[simp] theorem x_frz7 : D.frz (.ro xs) = .ro xs := rfl
@[simp] theorem x_frz8 {b : Bool} {ks : List Key} : D.frz (.dct b ks xs) = .dct false ks xs := by simp only [D.frz]
@[simp] theorem x_frz9 {b : Bool} {n : Nat} {ks : List Str} : D.frz (.obj b n ks xs) = .obj false n ks (D.frzs xs) := by simp only [D.frz]
@[simp] theorem x_add1 {m n : Int} : binD .Add (.int m) (.int n) = some (.int (m + n)) := rfl
@[simp] theorem x_sub1 {m n : Int} : binD .Sub (.int m) (.int n) = some (.int (m - n)) := rfl
theorem mulOk_r {m n : Int} (h : -18446744073709551616 < n ∧ n < 18446744073709551616) : mulOk m n = true := by
  unfold mulOk
  rw [decide_eq_true (show -(2 ^ 64) < n from h.1), decide_eq_true (show n < 2 ^ 64 from h.2)]
  rfl
theorem mulOk_l {m n : Int} (h : -18446744073709551616 < m ∧ m < 18446744073709551616) : mulOk m n = true := by
  unfold mulOk
  rw [decide_eq_true (show -(2 ^ 64) < m from h.1), decide_eq_true (show m < 2 ^ 64 from h.2), Bool.and_self, Bool.or_true]
@[simp] theorem x_mul1 {m n : Int} (h : (-18446744073709551616 < n ∧ n < 18446744073709551616) ∨ (-18446744073709551616 < m ∧ m < 18446744073709551616)) : binD .Mult (.int m) (.int n) = some (.int (m * n)) := if_pos (h.elim mulOk_r mulOk_l)
@[simp] theorem x_mod1 {m n : Int} (h : 0 < n) : binD .Mod (.int m) (.int n) = some (.int (m % n)) := by
  show (if decide (0 < n) then some (D.int (m % n)) else none) = _
  rw [decide_eq_true h]
  rfl
@[simp] theorem x_div1 {m n : Int} (h : 0 < n) (h' : n < 1073741824) : binD .FloorDiv (.int m) (.int n) = some (.int (m / n)) := by
  show (if decide (0 < n) && decide (n < 1073741824) then some (D.int (m / n)) else none) = _
  rw [decide_eq_true h, decide_eq_true h']
  rfl
@[simp] theorem x_pow1 {m n : Int} (h : 0 ≤ n) (h2 : n ≤ 1000) (h3 : m.natAbs < 18446744073709551616) : binD .Pow (.int m) (.int n) = some (.int (m ^ n.toNat)) := by
  show (if decide (0 ≤ n) && decide (n ≤ 1000) && decide (m.natAbs < 2 ^ 64) then some (D.int (m ^ n.toNat)) else none) = _
  rw [decide_eq_true h, decide_eq_true h2, decide_eq_true (show m.natAbs < 2 ^ 64 from h3)]
  rfl
@[simp] theorem x_add2 {o1 o2 : Bool} {ys : List D} (h : xs.length + ys.length ≤ 16000000) : binD .Add (.lst o1 xs) (.lst o2 ys) = some (.lst true (xs ++ ys)) := if_pos (fits_of h)
@[simp] theorem x_add3 {ys : List D} (h : xs.length + ys.length ≤ 16000000) : binD .Add (.tup xs) (.tup ys) = some (.tup (xs ++ ys)) := if_pos (fits_of h)
def allStr : List D → Bool
  | [] => true
  | .str _ :: ds => allStr ds
  | _ => false
def anyStr (x : Str) : List D → Bool
  | [] => false
  | .str y :: ds => decide (y = x) || anyStr x ds
  | _ => false
@[simp] theorem x_all0 : allStr [] = true := by rw [allStr]
@[simp] theorem x_all1 {y : Str} : allStr (.str y :: ds) = allStr ds := by rw [allStr]
@[simp] theorem x_all2 : ∀ {ys : List Str}, allStr (ys.map .str) = true
  | [] => rfl
  | y :: ys => by rw [List.map_cons, x_all1]; exact x_all2
@[simp] theorem x_any0 {x : Str} : anyStr x [] = false := rfl
@[simp] theorem x_any1 {x y : Str} : anyStr x (.str y :: ds) = (decide (y = x) || anyStr x ds) := rfl
@[simp] theorem x_any2 {x : Str} : ∀ {ys : List Str}, anyStr x (ys.map .str) = decide (x ∈ ys)
  | [] => by simp
  | y :: ys => by
    rw [List.map_cons, x_any1, x_any2]
    by_cases h1 : y = x
    · simp [h1]
    · have h2 : ¬ x = y := fun e => h1 e.symm
      simp [h1, h2]
theorem inL_str {x : Str} : ∀ {ds : List D}, allStr ds = true → ds.all D.sc = true ∧ (ds.any fun y => eqS y (.str x)) = anyStr x ds
  | [], _ => ⟨rfl, rfl⟩
  | d :: ds, h => by
    cases d <;> first | cases h | skip
    rename_i y
    obtain ⟨h1, h2⟩ := inL_str (x := x) (ds := ds) h
    refine ⟨by rw [List.all_cons, h1]; rfl, ?_⟩
    rw [List.any_cons, h2, x_any1]
    rfl
theorem inL_str' {x : Str} (h : allStr ds = true) : inL (.str x) ds = some (anyStr x ds) := by
  obtain ⟨h1, h2⟩ := inL_str (x := x) h
  unfold inL
  rw [if_pos (by rw [h1]; rfl), h2]
@[simp] theorem x_in1 {x : Str} (h : allStr ds = true) : cmpB .In (.str x) (.tup ds) = some (anyStr x ds) := inL_str' h
@[simp] theorem x_in2 {x : Str} {b : Bool} (h : allStr ds = true) : cmpB .In (.str x) (.lst b ds) = some (anyStr x ds) := inL_str' h
@[simp] theorem x_nin1 {x : Str} (h : allStr ds = true) : cmpB .NotIn (.str x) (.tup ds) = some (!anyStr x ds) := congrArg (Option.map (!·)) (inL_str' h)
@[simp] theorem x_nin2 {x : Str} {b : Bool} (h : allStr ds = true) : cmpB .NotIn (.str x) (.lst b ds) = some (!anyStr x ds) := congrArg (Option.map (!·)) (inL_str' h)
@[simp] theorem x_lt {m n : Int} : cmpB .Lt (.int m) (.int n) = some (decide (m < n)) := rfl
@[simp] theorem x_le {m n : Int} : cmpB .LtE (.int m) (.int n) = some (decide (m ≤ n)) := rfl
@[simp] theorem x_gt {m n : Int} : cmpB .Gt (.int m) (.int n) = some (decide (n < m)) := rfl
@[simp] theorem x_ge {m n : Int} : cmpB .GtE (.int m) (.int n) = some (decide (n ≤ m)) := rfl
@[simp] theorem x_eq1 {m n : Int} : cmpB .Eq (.int m) (.int n) = some (decide (m = n)) := rfl
@[simp] theorem x_eq2 {m n : Str} : cmpB .Eq (.str m) (.str n) = some (decide (m = n)) := rfl
@[simp] theorem x_eq4 : cmpB .Eq .non .non = some true := by decide
@[simp] theorem x_eq3 {m n : Bool} : cmpB .Eq (.bl m) (.bl n) = some (decide (m = n)) := rfl
@[simp] theorem x_ne1 {m n : Int} : cmpB .NotEq (.int m) (.int n) = some (!decide (m = n)) := rfl
@[simp] theorem x_ne2 {m n : Str} : cmpB .NotEq (.str m) (.str n) = some (!decide (m = n)) := rfl
@[simp] theorem x_ne3 {m n : Bool} : cmpB .NotEq (.bl m) (.bl n) = some (!decide (m = n)) := rfl
@[simp] theorem x_ison {d : D} : D.isNon .non = true := rfl
@[simp] theorem x_is1 {n : Int} : D.isNon (.int n) = false := rfl
@[simp] theorem x_is2 {n : Str} : D.isNon (.str n) = false := rfl
@[simp] theorem x_is3 {n : Bool} : D.isNon (.bl n) = false := rfl
@[simp] theorem x_is4 : D.isNon (.tup xs) = false := rfl
@[simp] theorem x_is5 {n : Bool} : D.isNon (.lst n xs) = false := rfl
@[simp] theorem x_is {d : D} : cmpB .Is d .non = some d.isNon := rfl
@[simp] theorem x_isn {d : D} : cmpB .IsNot d .non = some (!d.isNon) := rfl
@[simp] theorem x_tru1' {b : Bool} : truD (.bl b) = some b := rfl
@[simp] theorem x_tru2 {n : Int} : truD (.int n) = some (n != 0) := rfl
@[simp] theorem x_tru3 : truD .non = some false := rfl
@[simp] theorem x_tru4 : truD (.tup xs) = some (!xs.isEmpty) := rfl
@[simp] theorem x_tru5 {b : Bool} : truD (.lst b xs) = some (!xs.isEmpty) := rfl
@[simp] theorem x_len1 {b : Bool} : BI.op .len [.lst b xs] = some (.int xs.length) := rfl
@[simp] theorem x_len2 : BI.op .len [.tup xs] = some (.int xs.length) := rfl
@[simp] theorem x_len3 : BI.op .len [.ro xs] = some (.int xs.length) := rfl
@[simp] theorem x_list1 {b : Bool} : BI.op .list [.lst b xs] = some (.lst true xs) := rfl
@[simp] theorem x_list2 : BI.op .list [.ro xs] = some (.lst true xs) := rfl
@[simp] theorem x_list3 : BI.op .list [.tup xs] = some (.lst true xs) := rfl
@[simp] theorem x_tuple1 {b : Bool} : BI.op .tuple [.lst b xs] = some (.tup xs) := rfl
@[simp] theorem x_tuple2 : BI.op .tuple [.tup xs] = some (.tup xs) := rfl
@[simp] theorem x_int1 {n : Int} : BI.op .int [.int n] = some (.int n) := rfl
@[simp] theorem x_int2 {b : Bool} : BI.op .int [.bl b] = some (.int (if b then 1 else 0)) := rfl
end
end NS
namespace NS
open PySem PySem.Spec PyProof.Rows L2

/-! ## 18. loops by an invariant -/
/-- it goes on, in such slots -/
def Fl.on (F : Fl) (I : Sl → Prop) : Prop := match F with
  | .nx s => I s
  | _ => False
@[simp] theorem x_on {s : Sl} {I : Sl → Prop} : (Fl.nx s).on I = I s := rfl
/-! ## 19. the pool of numbers -/
def drawA : Sl → Fl := (ifS (andT (cmpT .LtE (bin2 (nameE 0) (constE (.int 2)) ixK) (constE (.int 0))) (andT (cmpT .LtE (bin2 (nameE 0) (constE (.int 4)) ixK) (constE (.int 0))) (cmpT .Lt (bin2 (nameE 0) (constE (.int 1)) ixK) (bltE (BI.op .len) [(bin2 (nameE 0) (constE (.int 0)) ixK)])))) (seqS (setS 2 (bin2 (bin2 (nameE 0) (constE (.int 0)) ixK) (bin2 (nameE 0) (constE (.int 1)) ixK) ixK))
  (seqS (stoS 0 (constE (.int 1)) (bin2 (bin2 (nameE 0) (constE (.int 1)) ixK) (constE (.int 1)) (op2K (binD .Add))))
  (seqS (stoS 0 (constE (.int 3)) (bin2 (bltE (BI.op .int) [(bin2 (bin2 (bin2 (nameE 0) (constE (.int 3)) ixK) (constE (.int 31)) (op2K (binD .Mult))) (nameE 2) (op2K (binD .Add)))]) (constE (.int 2147483647)) (op2K (binD .Mod))))
  (seqS (stoS 0 (constE (.int 4)) (constE (.int 7)))
  (ifS (cmpT .GtE (nameE 2) (bin2 (constE (.int 10)) (constE (.int 18)) (op2K (binD .Pow)))) (stoS 0 (constE (.int 2)) (nameE 2)) nxS))))) nxS)
def drawB : Sl → Fl := (seqS (ifS (cmpT .Gt (bin2 (nameE 0) (constE (.int 2)) ixK) (constE (.int 0))) (seqS (setS 3 (bin2 (bltE (BI.op .int) [(bin2 (nameE 0) (constE (.int 2)) ixK)]) (nameE 1) (op2K (binD .Mod))))
  (seqS (stoS 0 (constE (.int 2)) (bin2 (bin2 (nameE 0) (constE (.int 2)) ixK) (nameE 1) (op2K (binD .FloorDiv))))
  (seqS (stoS 0 (constE (.int 4)) (constE (.int 0)))
  (retS (nameE 3))))) nxS)
  (seqS (stoS 0 (constE (.int 4)) (bin2 (bin2 (nameE 0) (constE (.int 4)) ixK) (constE (.int 1)) (op2K (binD .Sub))))
  (seqS (stoS 0 (constE (.int 3)) (bin2 (bltE (BI.op .int) [(bin2 (bin2 (bin2 (nameE 0) (constE (.int 3)) ixK) (constE (.int 48271)) (op2K (binD .Mult))) (constE (.int 12345)) (op2K (binD .Add)))]) (constE (.int 2147483647)) (op2K (binD .Mod))))
  (retS (bin2 (bin2 (bltE (BI.op .int) [(bin2 (bin2 (bin2 (nameE 0) (constE (.int 3)) ixK) (constE (.int 69621)) (op2K (binD .Mult))) (constE (.int 7919)) (op2K (binD .Add)))]) (constE (.int 2147483647)) (op2K (binD .Mod))) (nameE 1) (op2K (binD .Mod)))))))
def mDraw : Sl → Fl := seqS drawA drawB
structure Pool where
  cells : List Int
  i : Nat
  big : Int
  seed : Int
  left : Int
  bud : Int
def Pool.d (p : Pool) : D := .lst true [.lst false (p.cells.map .int), .int p.i, .int p.big, .int p.seed, .int p.left, .int p.bud]
theorem x_atNat {xs : List D} {i : Nat} {d : D} (h : xs[i]? = some d) : L2.atI xs (i : Int) = some d := by
  have hl := (List.getElem?_eq_some_iff.mp h).1
  have e : ixN xs.length (i : Int) = some i := by
    unfold ixN
    simp only [Int.natCast_nonneg]
    first
      | simp [hl]
      | (split <;> simp_all <;> omega)
  show (ixN xs.length (i : Int)).bind (fun j => xs[j]?) = some d
  rw [e]
  exact h
theorem x_drawA {p : Pool} {n : Int} {o1 o2 : Option D} (hA : ¬ (p.big ≤ 0 ∧ p.left ≤ 0 ∧ p.i < p.cells.length)) : drawA [some p.d, some (.int n), o1, o2] = .nx [some p.d, some (.int n), o1, o2] := by
  by_cases h1 : p.big ≤ 0
  · by_cases h2 : p.left ≤ 0
    · have h3 : ¬ p.i < p.cells.length := fun z => hA ⟨h1, h2, z⟩
      simp [drawA, Pool.d, L2.atI, ixD, ixN, h1, h2, h3]
    · simp [drawA, Pool.d, L2.atI, ixD, ixN, h1, h2]
  · simp [drawA, Pool.d, L2.atI, ixD, ixN, h1]
theorem x_drawA2 {p : Pool} {n : Int} {o1 o2 : Option D} (hA : p.big ≤ 0 ∧ p.left ≤ 0 ∧ p.i < p.cells.length) : ∃ q : Pool, ∃ o3, drawA [some p.d, some (.int n), o1, o2] = .nx [some q.d, some (.int n), o3, o2] ∧ q.bud = p.bud := by
  obtain ⟨h1, h2, h3⟩ := hA
  have hc : (p.cells.map D.int)[p.i]? = some (.int p.cells[p.i]) := by
    rw [List.getElem?_map, List.getElem?_eq_getElem h3]
    rfl
  have hc2 : ixD (.lst false (p.cells.map D.int)) (.int p.i) = some (.int p.cells[p.i]) := x_atNat hc
  by_cases h4 : (1000000000000000000 : Int) ≤ p.cells[p.i]
  · refine ⟨{ p with i := p.i + 1, seed := (p.seed * 31 + p.cells[p.i]) % 2147483647, left := 7, big := p.cells[p.i] }, some (.int p.cells[p.i]), ?_, rfl⟩
    have e1 : ∀ a b c d e f : D, ixD (.lst false [a, b, c, d, e, f]) (.int 0) = some a := fun _ _ _ _ _ _ => rfl
    have e2 : ∀ a b c d e f : D, ixD (.lst false [a, b, c, d, e, f]) (.int 1) = some b := fun _ _ _ _ _ _ => rfl
    have e3 : ∀ a b c d e f : D, ixD (.lst false [a, b, c, d, e, f]) (.int 2) = some c := fun _ _ _ _ _ _ => rfl
    have e4 : ∀ a b c d e f : D, ixD (.lst false [a, b, c, d, e, f]) (.int 3) = some d := fun _ _ _ _ _ _ => rfl
    have e5 : ∀ a b c d e f : D, ixD (.lst false [a, b, c, d, e, f]) (.int 4) = some e := fun _ _ _ _ _ _ => rfl
    simp [drawA, Pool.d, ixN, h1, h2, h3, h4, hc2, e1, e2, e3, e4, e5]
  · refine ⟨{ p with i := p.i + 1, seed := (p.seed * 31 + p.cells[p.i]) % 2147483647, left := 7 }, some (.int p.cells[p.i]), ?_, rfl⟩
    have e1 : ∀ a b c d e f : D, ixD (.lst false [a, b, c, d, e, f]) (.int 0) = some a := fun _ _ _ _ _ _ => rfl
    have e2 : ∀ a b c d e f : D, ixD (.lst false [a, b, c, d, e, f]) (.int 1) = some b := fun _ _ _ _ _ _ => rfl
    have e3 : ∀ a b c d e f : D, ixD (.lst false [a, b, c, d, e, f]) (.int 2) = some c := fun _ _ _ _ _ _ => rfl
    have e4 : ∀ a b c d e f : D, ixD (.lst false [a, b, c, d, e, f]) (.int 3) = some d := fun _ _ _ _ _ _ => rfl
    have e5 : ∀ a b c d e f : D, ixD (.lst false [a, b, c, d, e, f]) (.int 4) = some e := fun _ _ _ _ _ _ => rfl
    simp [drawA, Pool.d, ixN, h1, h2, h3, h4, hc2, e1, e2, e3, e4, e5]
theorem x_drawB (p : Pool) (n : Int) (h0 : 0 < n) (h1 : n < 1073741824) (o1 o2 : Option D) :
    ∃ r q, calK [true, true] (drawB [some p.d, some (.int n), o1, o2]) = .ok (.int r) [some (Pool.d q), some (.int n)] ∧ 0 ≤ r ∧ r < n ∧ q.bud = p.bud := by
  by_cases hb : 0 < p.big
  · refine ⟨p.big % n, { p with big := p.big / n, left := 0 }, ?_, Int.emod_nonneg _ (by omega), Int.emod_lt_of_pos _ h0, rfl⟩
    simp [drawB, Pool.d, L2.atI, ixD, hb, ixN, h0, h1]
  · refine ⟨(((p.seed * 48271 + 12345) % 2147483647 * 69621 + 7919) % 2147483647) % n, { p with left := p.left - 1, seed := (p.seed * 48271 + 12345) % 2147483647 }, ?_, Int.emod_nonneg _ (by omega), Int.emod_lt_of_pos _ h0, rfl⟩
    simp [drawB, Pool.d, L2.atI, ixD, hb, ixN, h0, h1]
theorem draw_spec (p : Pool) (n : Int) (h0 : 0 < n) (h1 : n < 1073741824) : ∃ r q, calOf mDraw 4 [true, true] [p.d, .int n] = .ok (.int r) [some (Pool.d q), some (.int n)] ∧ 0 ≤ r ∧ r < n ∧ q.bud = p.bud := by
  have e : calOf mDraw 4 [true, true] [p.d, .int n] = calK [true, true] ((drawA [some p.d, some (.int n), none, none]).seq drawB) := rfl
  rw [e]
  by_cases hA : p.big ≤ 0 ∧ p.left ≤ 0 ∧ p.i < p.cells.length
  · obtain ⟨q, o3, e1, e2⟩ := x_drawA2 (n := n) (o1 := none) (o2 := none) hA
    rw [e1]
    obtain ⟨r, q2, e3, h3, h4, h5⟩ := x_drawB q n h0 h1 o3 none
    exact ⟨r, q2, e3, h3, h4, h5.trans e2⟩
  · rw [x_drawA hA]
    exact x_drawB p n h0 h1 none none
/-- a draw's number, the pool behind it -/
noncomputable def Pool.val (p : Pool) (n : Int) : Int := if h : 0 < n ∧ n < 1073741824 then (draw_spec p n h.1 h.2).choose else 0
noncomputable def Pool.nxt (p : Pool) (n : Int) : Pool := if h : 0 < n ∧ n < 1073741824 then (draw_spec p n h.1 h.2).choose_spec.choose else p
theorem draw_eq (p : Pool) (n : Int) (h0 : 0 < n) (h1 : n < 1073741824) : calOf mDraw 4 [true, true] [p.d, .int n] = .ok (.int (p.val n)) [some (p.nxt n).d, some (.int n)] := by
  unfold Pool.val Pool.nxt
  rw [dif_pos ⟨h0, h1⟩, dif_pos ⟨h0, h1⟩]
  exact (draw_spec p n h0 h1).choose_spec.choose_spec.1
theorem Pool.val_nn (p : Pool) (n : Int) (h0 : 0 < n) (h1 : n < 1073741824) : 0 ≤ p.val n := by
  unfold Pool.val
  rw [dif_pos ⟨h0, h1⟩]
  exact (draw_spec p n h0 h1).choose_spec.choose_spec.2.1
@[simp] theorem Pool.nxt_bud (p : Pool) (n : Int) : (p.nxt n).bud = p.bud := by
  unfold Pool.nxt
  split
  · rename_i h
    exact (draw_spec p n h.1 h.2).choose_spec.choose_spec.2.2.2
  · rfl
@[simp] theorem Pool.d_own (p : Pool) : p.d.own = true := rfl
end NS
namespace NS
open PySem PySem.Spec PyProof.Rows L2
/-- _law_pool(_law_script, _law_budget) -/
def M_law_pool : Sl → Fl :=
  (retS (lstE (valsE [(bltE (BI.op .list) [(nameE 0)]), (constE (.int 0)), (constE (.int 0)), (constE (.int 1)), (constE (.int 0)), (nameE 1)])))
/-- _law_draw(_law_pool_here, _law_size, _law_cell, _law_value) -/
def M_law_draw : Sl → Fl :=
  (seqS (ifS (andT (cmpT .LtE (bin2 (nameE 0) (constE (.int 2)) ixK) (constE (.int 0))) (andT (cmpT .LtE (bin2 (nameE 0) (constE (.int 4)) ixK) (constE (.int 0))) (cmpT .Lt (bin2 (nameE 0) (constE (.int 1)) ixK) (bltE (BI.op .len) [(bin2 (nameE 0) (constE (.int 0)) ixK)])))) (seqS (setS 2 (bin2 (bin2 (nameE 0) (constE (.int 0)) ixK) (bin2 (nameE 0) (constE (.int 1)) ixK) ixK))
  (seqS (stoS 0 (constE (.int 1)) (bin2 (bin2 (nameE 0) (constE (.int 1)) ixK) (constE (.int 1)) (op2K (binD .Add))))
  (seqS (stoS 0 (constE (.int 3)) (bin2 (bltE (BI.op .int) [(bin2 (bin2 (bin2 (nameE 0) (constE (.int 3)) ixK) (constE (.int 31)) (op2K (binD .Mult))) (nameE 2) (op2K (binD .Add)))]) (constE (.int 2147483647)) (op2K (binD .Mod))))
  (seqS (stoS 0 (constE (.int 4)) (constE (.int 7)))
  (ifS (cmpT .GtE (nameE 2) (bin2 (constE (.int 10)) (constE (.int 18)) (op2K (binD .Pow)))) (stoS 0 (constE (.int 2)) (nameE 2)) nxS))))) nxS)
  (seqS (ifS (cmpT .Gt (bin2 (nameE 0) (constE (.int 2)) ixK) (constE (.int 0))) (seqS (setS 3 (bin2 (bltE (BI.op .int) [(bin2 (nameE 0) (constE (.int 2)) ixK)]) (nameE 1) (op2K (binD .Mod))))
  (seqS (stoS 0 (constE (.int 2)) (bin2 (bin2 (nameE 0) (constE (.int 2)) ixK) (nameE 1) (op2K (binD .FloorDiv))))
  (seqS (stoS 0 (constE (.int 4)) (constE (.int 0)))
  (retS (nameE 3))))) nxS)
  (seqS (stoS 0 (constE (.int 4)) (bin2 (bin2 (nameE 0) (constE (.int 4)) ixK) (constE (.int 1)) (op2K (binD .Sub))))
  (seqS (stoS 0 (constE (.int 3)) (bin2 (bltE (BI.op .int) [(bin2 (bin2 (bin2 (nameE 0) (constE (.int 3)) ixK) (constE (.int 48271)) (op2K (binD .Mult))) (constE (.int 12345)) (op2K (binD .Add)))]) (constE (.int 2147483647)) (op2K (binD .Mod))))
  (retS (bin2 (bin2 (bltE (BI.op .int) [(bin2 (bin2 (bin2 (nameE 0) (constE (.int 3)) ixK) (constE (.int 69621)) (op2K (binD .Mult))) (constE (.int 7919)) (op2K (binD .Add)))]) (constE (.int 2147483647)) (op2K (binD .Mod))) (nameE 1) (op2K (binD .Mod))))))))
/-- law(_law_script, _law_pool_here, _law_first, _law_k) -/
def M_law_k76_f0 (c__law_raised c__law_draw c__law_pool : List D → CR) : Sl → Fl :=
  (ifS (notT (truT (callE c__law_raised [true] [(bin2 (bin2 (nameE 2) (nameE 3) (op2K (binD .Add))) (constE (.int 5)) (op2K (binD .Mod)))]))) (retS (constE (.bl false))) nxS)
def M_law_k76 (c__law_raised c__law_draw c__law_pool : List D → CR) : Sl → Fl :=
  (seqS (setS 1 (callE c__law_pool [true, true] [(nameE 0), (constE (.int 0))]))
  (seqS (setS 2 (callE c__law_draw [true, true] [(nameE 1), (constE (.int 5))]))
  (seqS (forS (rng1 (constE (.int 5))) (tgN 3) (M_law_k76_f0 c__law_raised c__law_draw c__law_pool))
  (retS (constE (.bl true))))))
end NS
set_option maxHeartbeats 0
namespace NS
open NR
open PySem PySem.Spec PyProof.Rows L2
theorem m82_eq (cal : Nat → List D → CR) : T.mn cal d82 = M_law_pool := by kernel_rfl
theorem q_law_pool (k : Nat) (ds : List D) : T.cal (k + 1) 82 ds = calOf (M_law_pool) 2 [true, true] ds := by
  show calOf (T.mn (mixC (T.cal k) (T.prv k)) d82) d82.N.length d82.pins ds = _
  rw [m82_eq]
  rfl
theorem m83_eq (cal : Nat → List D → CR) : T.mn cal d83 = M_law_draw := by kernel_rfl
theorem q_law_draw (k : Nat) (ds : List D) : T.cal (k + 1) 83 ds = calOf (M_law_draw) 4 [true, true] ds := by
  show calOf (T.mn (mixC (T.cal k) (T.prv k)) d83) d83.N.length d83.pins ds = _
  rw [m83_eq]
  rfl
theorem m85_eq (cal : Nat → List D → CR) : T.mn cal d85 = M_law_k76 (cal 84) (cal 83) (cal 82) := by kernel_rfl
theorem q_law (k : Nat) (ds : List D) : T.cal (k + 1) 85 ds = calOf (M_law_k76 (T.cal k 84) (T.cal k 83) (T.cal k 82)) 4 [true] ds := by
  show calOf (T.mn (mixC (T.cal k) (T.prv k)) d85) d85.N.length d85.pins ds = _
  rw [m85_eq]
  rfl
def KL : Nat := 230
theorem pool_eq (k : Nat) (ns : List Int) (b : Int) : T.cal (k + 1) 82 [.ro (ns.map .int), .int b] = .ok (Pool.d ⟨ns, 0, 0, 1, 0, b⟩) [some (.ro (ns.map .int)), some (.int b)] := by
  rw [q_law_pool, x_calOf]
  simp [M_law_pool, begS, Pool.d]
theorem fD (k : Nat) (p : Pool) (n : Int) (h0 : 0 < n) (h1 : n < 1073741824) : T.cal (k + 1) 83 [p.d, .int n] = .ok (.int (p.val n)) [some (p.nxt n).d, some (.int n)] := by
  rw [q_law_draw]
  exact draw_eq p n h0 h1
def yes1 : CR → Bool
  | .ok (.bl true) [_] => true
  | _ => false
theorem yes1_eq {r : CR} (h : yes1 r = true) : ∃ o, r = .ok (.bl true) [o] := by
  unfold yes1 at h
  split at h
  · exact ⟨_, rfl⟩
  · cases h
/-- each refusal is told apart -/
theorem tab : ∀ w < 5, yes1 (T.cal 229 84 [.int (w : Nat)]) = true := by decide +kernel
theorem step_ok (c1 c2 : List D → CR) (x y : Option D) {f k : Int} (h0 : 0 ≤ f) (h1 : 0 ≤ k) : M_law_k76_f0 (T.cal 229 84) c1 c2 [x, y, some (.int f), some (.int k)] = .nx [x, y, some (.int f), some (.int k)] := by
  have hm0 : 0 ≤ (f + k) % 5 := Int.emod_nonneg _ (by decide)
  have hm1 : (f + k) % 5 < 5 := Int.emod_lt_of_pos _ (by decide)
  obtain ⟨o, e⟩ := yes1_eq (tab ((f + k) % 5).toNat (by omega))
  have ec : (((f + k) % 5).toNat : Int) = (f + k) % 5 := Int.toNat_of_nonneg hm0
  rw [ec] at e
  unfold M_law_k76_f0
  simp [e]
theorem holds (ns : List Int) (h : ns.length ≤ 63) : ∃ s, T.cal KL 85 [.ro (ns.map .int)] = .ok (.bl true) [s] := by
  have hp := pool_eq 228 ns 0
  refine ⟨some (.ro (ns.map .int)), ?_⟩
  show T.cal (229 + 1) 85 _ = _
  have hd := fD 228 ⟨ns, 0, 0, 1, 0, 0⟩ 5 (by decide) (by decide)
  have v0 := Pool.val_nn ⟨ns, 0, 0, 1, 0, 0⟩ 5 (by decide) (by decide)
  have eb : begS 4 [.ro (ns.map .int)] = [some (.ro (ns.map .int)), none, none, none] := rfl
  rw [q_law, x_calOf, eb]
  unfold M_law_k76
  generalize (⟨ns, 0, 0, 1, 0, 0⟩ : Pool) = p at *
  generalize p.val 5 = f at *
  have key : forS (rng1 (constE (.int 5))) (tgN 3) (M_law_k76_f0 (T.cal 229 84) (T.cal 229 83) (T.cal 229 82)) [some (.ro (ns.map .int)), some (p.nxt 5).d, some (.int f), none] = .nx [some (.ro (ns.map .int)), some (p.nxt 5).d, some (.int f), some (.int 4)] := by
    have s0 := step_ok (T.cal 229 83) (T.cal 229 82) (some (.ro (ns.map .int))) (some (p.nxt 5).d) v0 (k := 0) (by decide)
    have s1 := step_ok (T.cal 229 83) (T.cal 229 82) (some (.ro (ns.map .int))) (some (p.nxt 5).d) v0 (k := 1) (by decide)
    have s2 := step_ok (T.cal 229 83) (T.cal 229 82) (some (.ro (ns.map .int))) (some (p.nxt 5).d) v0 (k := 2) (by decide)
    have s3 := step_ok (T.cal 229 83) (T.cal 229 82) (some (.ro (ns.map .int))) (some (p.nxt 5).d) v0 (k := 3) (by decide)
    have s4 := step_ok (T.cal 229 83) (T.cal 229 82) (some (.ro (ns.map .int))) (some (p.nxt 5).d) v0 (k := 4) (by decide)
    generalize M_law_k76_f0 (T.cal 229 84) (T.cal 229 83) (T.cal 229 82) = B at *
    generalize (p.nxt 5).d = P at *
    have eu : upto 0 5 = [.int 0, .int 1, .int 2, .int 3, .int 4] := rfl
    simp [eu, x_forL, stepS, s0, s1, s2, s3, s4]
  generalize M_law_k76_f0 (T.cal 229 84) (T.cal 229 83) (T.cal 229 82) = B at *
  simp at key
  simp [hp, hd, key]

end NS
open PySem PySem.W PySem.Calls PyProof.Rows

theorem PySem.Challenge.cw_notslower_k76_errors_are_told_apart_holds : PySem.Challenge.rw_notslower_k76_errors_are_told_apart.Holds := by
  w_on; o_law
  refine HandSHeadRun.head_any (r := OpenLaw.row PySem.Challenge.rw_notslower_k76_errors_are_told_apart) (q := view (OpenLaw.row PySem.Challenge.rw_notslower_k76_errors_are_told_apart).prog [97]) (H := NR.hk) (ob := NR.ob) (M := 6000) (loose := NR.loose) (d := HandSHeadRun.topDef (OpenLaw.row PySem.Challenge.rw_notslower_k76_errors_are_told_apart).prog 97) (kwd := []) NR.ob_eq
    (by kernel_rfl) (fun s => by kernel_rfl) NR.run (by kernel_rfl) (by kernel_rfl) (by kernel_rfl) (by rfl) (by first | assumption | decide +kernel) (by decide +kernel) ⟨rfl, rfl, rfl, rfl, rfl, by decide +kernel⟩ ?hw ?hc
  case hw => w_witness2
  case hc =>
    refine NS.law_walk (l := PySem.Challenge.rw_notslower_k76_errors_are_told_apart) (n := 63) (k := NS.KL + 1) (x := "_law_script") rfl (by decide) (by kernel_rfl) ⟨rfl, by decide, by decide⟩ ?F
    intro w mg fa h Y G hmg0
    obtain ⟨K, KX, c, ce, cx⟩ := Y
    have hmg : mg ("law" : PySem.Str) = some (.ref fa) := by
      have e : (HandSHeadRun.topDef (OpenLaw.row PySem.Challenge.rw_notslower_k76_errors_are_told_apart).prog 97).name = ("law" : PySem.Str) := by kernel_rfl
      rw [← e]
      exact hmg0
    obtain ⟨fd, sp, hb, hsp, hF⟩ := NS.law_facts (T := NR.T) (P := (PySem.Challenge.rw_notslower_k76_errors_are_told_apart).prog) (w := w) (d := NR.d85) (i := 85) (k := NS.KL) (n := 63) NR.df_ok KX G c ce cx NR.ex_ok (fun _ => ⟨rfl, by kernel_rfl⟩) rfl rfl rfl rfl rfl hmg NS.holds
    exact ⟨K, fd, sp, KX, hb, hsp, hF⟩


