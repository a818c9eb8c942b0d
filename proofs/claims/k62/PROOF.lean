import PyProof.Rows.All
import Wide.All
import OpenK.AllK
import Wide.FinOn
import HandS.ForMost
import HandS.Walk
import HandS.Codes
import HandS.Deep
import HandS.TupAny
import HandS.IsInst
import HandS.Flt
import HandS.CallRecv
import HandS.Defaults
import HandS.HeadHook1
import HandS.HeadHook2
import Lean
import KE.KStateDown
import HandS.Ends
import HandS.More
import HandS.Words
import HandS.WordsExc
import HandS.Head0
import HandS.Head1
import HandS.Head2
import HandS.HeadEnd
import PySem.Challenge.RW_cutroom_k62_whole_nothing_lost
set_option Elab.async false
set_option linter.all false
set_option maxRecDepth 100000
set_option maxHeartbeats 0
/-! K62, the plain law: films, pieces, deeds, the joining of two lists of deeds; no program in sight. -/
namespace K62
section
variable {ν : Type} [DecidableEq ν]

/-! ### lists, pairwise -/
def All2 {α β : Type} (R : α → β → Prop) : List α → List β → Prop
  | [], [] => True
  | a :: as, b :: bs => R a b ∧ All2 R as bs
  | _, _ => False
section
variable {α β γ : Type} {R S : α → β → Prop}
theorem All2.len : ∀ {as : List α} {bs : List β}, All2 R as bs → as.length = bs.length
  | [], [], _ => rfl
  | _ :: _, _ :: _, h => by simp [All2.len h.2]
  | [], _ :: _, h => h.elim
  | _ :: _, [], h => h.elim
theorem All2.mono (f : ∀ a b, R a b → S a b) : ∀ {as : List α} {bs : List β}, All2 R as bs → All2 S as bs
  | [], [], _ => trivial
  | _ :: _, _ :: _, h => ⟨f _ _ h.1, All2.mono f h.2⟩
  | [], _ :: _, h => h.elim
  | _ :: _, [], h => h.elim
theorem All2.app : ∀ {as : List α} {bs : List β} {cs : List α} {ds : List β}, All2 R as bs → All2 R cs ds → All2 R (as ++ cs) (bs ++ ds)
  | [], [], _, _, _, h => h
  | _ :: _, _ :: _, _, _, h, k => ⟨h.1, All2.app h.2 k⟩
  | [], _ :: _, _, _, h, _ => h.elim
  | _ :: _, [], _, _, h, _ => h.elim
theorem All2.get : ∀ {as : List α} {bs : List β} {i : Nat} {a : α}, All2 R as bs → as[i]? = some a → ∃ b, bs[i]? = some b ∧ R a b
  | _ :: _, _ :: _, 0, _, h, e => ⟨_, rfl, by cases e; exact h.1⟩
  | _ :: _, _ :: _, i + 1, _, h, e => All2.get (i := i) h.2 (by simpa using e)
  | [], _, _, _, _, e => by simp at e
  | _ :: _, [], _, _, h, _ => h.elim
theorem All2.get' : ∀ {as : List α} {bs : List β} {i : Nat} {b : β}, All2 R as bs → bs[i]? = some b → ∃ a, as[i]? = some a ∧ R a b
  | _ :: _, _ :: _, 0, _, h, e => ⟨_, rfl, by cases e; exact h.1⟩
  | _ :: _, _ :: _, i + 1, _, h, e => All2.get' (i := i) h.2 (by simpa using e)
  | _, [], _, _, _, e => by simp at e
  | [], _ :: _, _, _, h, _ => h.elim
theorem All2.take : ∀ {as : List α} {bs : List β} (n : Nat), All2 R as bs → All2 R (as.take n) (bs.take n)
  | _, _, 0, _ => trivial
  | [], [], _ + 1, _ => trivial
  | _ :: _, _ :: _, n + 1, h => ⟨h.1, All2.take n h.2⟩
  | [], _ :: _, _ + 1, h => h.elim
  | _ :: _, [], _ + 1, h => h.elim
theorem All2.drop : ∀ {as : List α} {bs : List β} (n : Nat), All2 R as bs → All2 R (as.drop n) (bs.drop n)
  | _, _, 0, h => h
  | [], [], _ + 1, _ => trivial
  | _ :: _, _ :: _, n + 1, h => All2.drop n h.2
  | [], _ :: _, _ + 1, h => h.elim
  | _ :: _, [], _ + 1, h => h.elim
theorem All2.set : ∀ {as : List α} {bs : List β} {a : α} {b : β} (n : Nat), All2 R as bs → R a b → All2 R (as.set n a) (bs.set n b)
  | [], [], _, _, _, _, _ => trivial
  | _ :: _, _ :: _, _, _, 0, h, r => ⟨r, h.2⟩
  | _ :: _, _ :: _, _, _, n + 1, h, r => ⟨h.1, All2.set n h.2 r⟩
  | [], _ :: _, _, _, _, h, _ => h.elim
  | _ :: _, [], _, _, _, h, _ => h.elim
theorem All2.one {a : α} {b : β} (h : R a b) : All2 R [a] [b] := ⟨h, trivial⟩
theorem All2.snoc {as : List α} {bs : List β} {a : α} {b : β} (h : All2 R as bs) (r : R a b) : All2 R (as ++ [a]) (bs ++ [b]) := h.app (.one r)
theorem All2.trans {T : β → γ → Prop} {U : α → γ → Prop} (f : ∀ a b c, R a b → T b c → U a c) : ∀ {as : List α} {bs : List β} {cs : List γ}, All2 R as bs → All2 T bs cs → All2 U as cs
  | [], [], [], _, _ => trivial
  | _ :: _, _ :: _, _ :: _, h, k => ⟨f _ _ _ h.1 k.1, All2.trans f h.2 k.2⟩
  | [], [], _ :: _, _, k => k.elim
  | [], _ :: _, _, h, _ => h.elim
  | _ :: _, [], _, h, _ => h.elim
  | _ :: _, _ :: _, [], _, k => k.elim
theorem All2.mem {as : List α} {bs : List β} (h : All2 R as bs) {a : α} (m : a ∈ as) : ∃ b ∈ bs, R a b := by
  obtain ⟨i, hi, e⟩ := List.mem_iff_getElem.mp m
  obtain ⟨b, hb, r⟩ := h.get (i := i) (a := a) (by rw [List.getElem?_eq_getElem hi, e])
  exact ⟨b, List.mem_of_getElem? hb, r⟩
end

/-! ### pieces and films -/
structure Pc (ν : Type) where
  n : ν
  f : Int
  s : Int
  m : Nat
  deriving DecidableEq
abbrev Fr (ν : Type) := ν × Int
def Pc.film (p : Pc ν) : List (Fr ν) := (List.range p.m).map fun (k : Nat) => (p.n, p.f + p.s * (k : Int))
def film (ps : List (Pc ν)) : List (Fr ν) := ps.flatMap Pc.film
def len (ps : List (Pc ν)) : Nat := (ps.map (·.m)).sum
theorem Pc.film_len (p : Pc ν) : p.film.length = p.m := by simp [Pc.film]
theorem film_len : ∀ ps : List (Pc ν), (film ps).length = len ps
  | [] => rfl
  | p :: ps => by
    have ih := film_len ps
    simp only [film, len, List.flatMap_cons, List.length_append, List.map_cons, List.sum_cons] at *
    rw [ih, Pc.film_len]
theorem film_app (a b : List (Pc ν)) : film (a ++ b) = film a ++ film b := by simp [film]
theorem len_app (a b : List (Pc ν)) : len (a ++ b) = len a + len b := by simp [len]
theorem film_one (p : Pc ν) : film [p] = p.film := by simp [film]
theorem len_one (p : Pc ν) : len [p] = p.m := by simp [len]
theorem film_cons (p : Pc ν) (a : List (Pc ν)) : film (p :: a) = p.film ++ film a := by simp [film]
theorem Pc.film_at (p : Pc ν) {k : Nat} (h : k < p.m) : p.film[k]? = some (p.n, p.f + p.s * (k : Int)) := by
  simp [Pc.film, h]

/-! ### the least row -/
/-- a piece with one frame more, where one piece can show both -/
def ext (p : Pc ν) (x : Fr ν) : Option (Pc ν) :=
  if p.m = 1 ∧ p.n = x.1 ∧ -1 ≤ x.2 - p.f ∧ x.2 - p.f ≤ 1 then some ⟨p.n, p.f, x.2 - p.f, 2⟩
  else if 1 < p.m ∧ p.n = x.1 ∧ x.2 = p.f + p.s * (p.m : Int) then some ⟨p.n, p.f, p.s, p.m + 1⟩
  else none
def one (x : Fr ν) : Pc ν := ⟨x.1, x.2, 0, 1⟩
def stepL (acc : List (Pc ν)) (x : Fr ν) : List (Pc ν) := match acc with
  | [] => [one x]
  | p :: r => match ext p x with
    | some q => q :: r
    | none => one x :: p :: r
def least (fs : List (Fr ν)) : List (Pc ν) := (fs.foldl stepL []).reverse
theorem one_film (x : Fr ν) : (one x).film = [x] := by simp [one, Pc.film]
theorem ext_film {p q : Pc ν} {x : Fr ν} (h : ext p x = some q) : q.film = p.film ++ [x] := by
  unfold ext at h
  split at h
  · rename_i c
    obtain ⟨c1, c2, c3, c4⟩ := c
    cases h
    simp only [Pc.film, c1]
    simp [List.range_succ, c2]
    apply Prod.ext
    · rfl
    · simp; omega
  · split at h
    · rename_i c
      obtain ⟨c1, c2, c3⟩ := c
      cases h
      simp only [Pc.film, List.range_succ, List.map_append]
      simp [c2, c3.symm]
    · cases h
theorem stepL_film (acc : List (Pc ν)) (x : Fr ν) : film (stepL acc x).reverse = film acc.reverse ++ [x] := by
  unfold stepL
  split
  · simp [film, one_film]
  · split
    · rename_i q h
      simp only [List.reverse_cons, film_app, film_one, ext_film h, List.append_assoc]
    · simp only [List.reverse_cons, film_app, film_one, one_film]
theorem foldL_film : ∀ (fs : List (Fr ν)) (acc : List (Pc ν)), film (fs.foldl stepL acc).reverse = film acc.reverse ++ fs
  | [], acc => by simp
  | x :: fs, acc => by
    rw [List.foldl_cons, foldL_film fs, stepL_film, List.append_assoc]
    rfl
theorem least_film (fs : List (Fr ν)) : film (least fs) = fs := by
  unfold least
  rw [foldL_film]
  rfl
theorem len_least (fs : List (Fr ν)) : len (least fs) = fs.length := by rw [← film_len, least_film]
theorem least_ne {fs : List (Fr ν)} (h : fs ≠ []) : least fs ≠ [] := fun e => h (by rw [← least_film fs, e]; rfl)

/-! ### what a run is -/
/-- from acc on, the m frames from the one numbered a become one piece, and the next one (if any) goes to another -/
structure Run (fs : List (Fr ν)) (a : Nat) (q : Pc ν) : Prop where
  pos : 1 ≤ q.m
  le : a + q.m ≤ fs.length
  got : ∀ acc : List (Pc ν), (acc.head?.bind fun p => ext p (fs[a]?.getD (q.n, 0))) = none → ((fs.drop a).take q.m).foldl stepL acc = q :: acc
  stop : ∀ x, fs[a + q.m]? = some x → ext q x = none
  nm : ∃ z, fs[a]? = some (q.n, z) ∧ q.f = z
theorem stepL_new {acc : List (Pc ν)} {x : Fr ν} (h : (acc.head?.bind fun p => ext p x) = none) : stepL acc x = one x :: acc := by
  unfold stepL
  split
  · rfl
  · rename_i p r
    have h2 : ext p x = none := h
    rw [h2]
theorem stepL_more {r : List (Pc ν)} {p q : Pc ν} {x : Fr ν} (h : ext p x = some q) : stepL (p :: r) x = q :: r := by
  show (match ext p x with
    | some q => q :: r
    | none => one x :: p :: r) = q :: r
  rw [h]
theorem take_more {α : Type} {fs : List α} {a m : Nat} {x : α} (h : fs[a + m]? = some x) : (fs.drop a).take (m + 1) = (fs.drop a).take m ++ [x] := by
  rw [List.take_add_one, List.getElem?_drop, h]
  rfl
/-- a run of one frame -/
theorem Run.one {fs : List (Fr ν)} {a : Nat} {x : Fr ν} (h : fs[a]? = some x) (hn : ∀ y, fs[a + 1]? = some y → ext (one x) y = none) : Run fs a (one x) := by
  have hl : a < fs.length := (List.getElem?_eq_some_iff.mp h).1
  refine ⟨Nat.le_refl _, hl, fun acc e => ?_, hn, ⟨x.2, by rw [h]; rfl, rfl⟩⟩
  have e2 : (fs.drop a).take (0 + 1) = (fs.drop a).take 0 ++ [x] := take_more (by simpa using h)
  show ((fs.drop a).take (0 + 1)).foldl stepL acc = _
  rw [e2]
  rw [h] at e
  show stepL acc x = _
  exact stepL_new e
/-- the frames told so far of a run of two frames or more: what the while of the program keeps -/
structure Runs (fs : List (Fr ν)) (a : Nat) (q : Pc ν) : Prop where
  pos : 2 ≤ q.m
  le : a + q.m ≤ fs.length
  got : ∀ acc : List (Pc ν), (acc.head?.bind fun p => ext p (fs[a]?.getD (q.n, 0))) = none → ((fs.drop a).take q.m).foldl stepL acc = q :: acc
  nm : ∃ z, fs[a]? = some (q.n, z) ∧ q.f = z
theorem Runs.two {fs : List (Fr ν)} {a : Nat} {x y : Fr ν} (h : fs[a]? = some x) (h2 : fs[a + 1]? = some y) (e : x.1 = y.1) (l : -1 ≤ y.2 - x.2) (u : y.2 - x.2 ≤ 1) : Runs fs a ⟨x.1, x.2, y.2 - x.2, 2⟩ := by
  have hl : a + 1 < fs.length := (List.getElem?_eq_some_iff.mp h2).1
  refine ⟨Nat.le_refl _, hl, fun acc z => ?_, ⟨x.2, by rw [h], rfl⟩⟩
  have e1 : (fs.drop a).take (0 + 1) = (fs.drop a).take 0 ++ [x] := take_more (by simpa using h)
  have e2 : (fs.drop a).take (1 + 1) = (fs.drop a).take 1 ++ [y] := take_more h2
  show ((fs.drop a).take (1 + 1)).foldl stepL acc = _
  rw [e2, show (fs.drop a).take 1 = [x] by simpa using e1]
  rw [h] at z
  have z : (acc.head?.bind fun p => ext p x) = none := z
  show stepL (stepL acc x) y = _
  rw [stepL_new z]
  refine stepL_more ?_
  unfold ext K62.one
  rw [if_pos ⟨rfl, e, l, u⟩]
theorem Runs.more {fs : List (Fr ν)} {a : Nat} {q : Pc ν} (r : Runs fs a q) (h : fs[a + q.m]? = some (q.n, q.f + q.s * (q.m : Int))) : Runs fs a { q with m := q.m + 1 } := by
  have hl : a + q.m < fs.length := (List.getElem?_eq_some_iff.mp h).1
  have rp := r.pos
  refine ⟨Nat.le_succ_of_le rp, hl, fun acc z => ?_, r.nm⟩
  show ((fs.drop a).take (q.m + 1)).foldl stepL acc = _
  rw [take_more h, List.foldl_append, r.got acc z]
  refine stepL_more ?_
  unfold ext
  rw [if_neg (by omega), if_pos ⟨by omega, rfl, rfl⟩]
theorem Runs.done {fs : List (Fr ν)} {a : Nat} {q : Pc ν} (r : Runs fs a q) (h : ∀ x, fs[a + q.m]? = some x → x ≠ (q.n, q.f + q.s * (q.m : Int))) : Run fs a q := by
  have rp := r.pos
  refine ⟨by omega, r.le, r.got, fun x e => ?_, r.nm⟩
  unfold ext
  rw [if_neg (by omega), if_neg]
  intro ⟨_, c2, c3⟩
  exact h x e (Prod.ext c2.symm c3)
/-- the loop of fewest: what is found at a place, the next frame begins a piece -/
structure Few (fs : List (Fr ν)) (a : Nat) (found : List (Pc ν)) : Prop where
  le : a ≤ fs.length
  got : found = ((fs.take a).foldl stepL []).reverse
  new : ∀ x, fs[a]? = some x → ((found.reverse).head?.bind fun p => ext p x) = none
theorem Few.start (fs : List (Fr ν)) : Few fs 0 [] := ⟨Nat.zero_le _, by simp, fun _ _ => rfl⟩
theorem Few.next {fs : List (Fr ν)} {a : Nat} {found : List (Pc ν)} {q : Pc ν} (w : Few fs a found) (r : Run fs a q) : Few fs (a + q.m) (found ++ [q]) := by
  obtain ⟨z, hz, _⟩ := r.nm
  have g := r.got found.reverse (by rw [hz]; exact w.new _ hz)
  refine ⟨r.le, ?_, fun x e => ?_⟩
  · have e : fs.take (a + q.m) = fs.take a ++ (fs.drop a).take q.m := List.take_add
    rw [e, List.foldl_append]
    have e2 : (fs.take a).foldl stepL [] = found.reverse := by rw [w.got, List.reverse_reverse]
    rw [e2, g]
    simp
  · rw [List.reverse_append]
    exact r.stop x e
theorem Few.done {fs : List (Fr ν)} {found : List (Pc ν)} (w : Few fs fs.length found) : found = least fs := by
  rw [w.got, List.take_length]
  rfl

/-! ### rows that are rows -/
variable (N : ν → Prop) (blk : ν)
def VFr (x : Fr ν) : Prop := (x.1 = blk ∧ x.2 = 0) ∨ (N x.1 ∧ 0 ≤ x.2 ∧ x.2 ≤ 9999)
structure VPc (p : Pc ν) : Prop where
  f0 : 0 ≤ p.f
  f1 : p.f ≤ 9999
  s0 : -1 ≤ p.s
  s1 : p.s ≤ 1
  m0 : 1 ≤ p.m
  m1 : p.m ≤ 3000
  nm : (p.n = blk ∧ p.f = 0 ∧ p.s = 0) ∨ (N p.n ∧ 0 ≤ p.f + p.s * ((p.m : Int) - 1) ∧ p.f + p.s * ((p.m : Int) - 1) ≤ 9999)
def VPcs (ps : List (Pc ν)) : Prop := ∀ p ∈ ps, VPc N blk p
def VRow (ps : List (Pc ν)) : Prop := VPcs N blk ps ∧ len ps ≤ 3000
variable {N blk}
theorem three {s : Int} (h0 : -1 ≤ s) (h1 : s ≤ 1) : s = -1 ∨ s = 0 ∨ s = 1 := by omega
theorem VPc.frames {p : Pc ν} (v : VPc N blk p) : ∀ x ∈ p.film, VFr N blk x := by
  intro x hx
  unfold Pc.film at hx
  obtain ⟨k, hk, e⟩ := List.mem_map.mp hx
  have hk2 : k < p.m := by simpa using hk
  subst e
  have := v.f0
  have := v.f1
  rcases v.nm with ⟨a, b, c⟩ | ⟨a, b, c⟩
  · left
    refine ⟨a, ?_⟩
    show p.f + p.s * (k : Int) = 0
    rw [b, c]; omega
  · right
    refine ⟨a, ?_⟩
    show 0 ≤ p.f + p.s * (k : Int) ∧ p.f + p.s * (k : Int) ≤ 9999
    rcases three v.s0 v.s1 with e | e | e <;> rw [e] at b c ⊢ <;> omega
theorem VPcs.frames {ps : List (Pc ν)} (v : VPcs N blk ps) : ∀ x ∈ film ps, VFr N blk x := by
  intro x hx
  unfold film at hx
  obtain ⟨p, hp, h⟩ := List.mem_flatMap.mp hx
  exact (v p hp).frames x h
/-- what the pieces of a least row of good frames are -/
structure GPc (N : ν → Prop) (blk : ν) (p : Pc ν) : Prop where
  pos : 1 ≤ p.m
  s0 : -1 ≤ p.s
  s1 : p.s ≤ 1
  st : p.m = 1 → p.s = 0
  fr : ∀ x ∈ p.film, VFr N blk x
theorem GPc.one {x : Fr ν} (v : VFr N blk x) : GPc N blk (one x) := ⟨Nat.le_refl _, by show (-1 : Int) ≤ 0; decide, by show (0 : Int) ≤ 1; decide, fun _ => rfl, fun y hy => by
  rw [one_film] at hy
  rw [List.mem_singleton.mp hy]
  exact v⟩
theorem GPc.ext {p q : Pc ν} {x : Fr ν} (g : GPc N blk p) (v : VFr N blk x) (h : ext p x = some q) : GPc N blk q := by
  have hf := ext_film h
  have gp := g.pos
  refine ⟨?_, ?_, ?_, ?_, fun y hy => ?_⟩
  rotate_right
  · rw [hf] at hy
    rcases List.mem_append.mp hy with hy | hy
    · exact g.fr y hy
    · rw [List.mem_singleton.mp hy]
      exact v
  all_goals
    unfold K62.ext at h
    split at h
    · rename_i c
      cases h
      first | exact c.2.2.1 | exact c.2.2.2 | (intro z; have z : 2 = 1 := z; omega) | (show 1 ≤ 2; omega)
    · split at h
      · cases h
        first | exact g.s0 | exact g.s1 | (show 1 ≤ p.m + 1; omega) | (intro z; have z : p.m + 1 = 1 := z; omega)
      · cases h
theorem foldL_good : ∀ (fs : List (Fr ν)) (acc : List (Pc ν)), (∀ x ∈ fs, VFr N blk x) → (∀ p ∈ acc, GPc N blk p) → ∀ p ∈ fs.foldl stepL acc, GPc N blk p
  | [], acc, _, h => h
  | x :: fs, acc, hf, h => by
    rw [List.foldl_cons]
    refine foldL_good fs _ (fun y hy => hf y (List.mem_cons_of_mem _ hy)) fun p hp => ?_
    have hx := hf x List.mem_cons_self
    unfold stepL at hp
    split at hp
    · rw [List.mem_singleton.mp hp]
      exact GPc.one hx
    · rename_i q r
      split at hp
      · rename_i q' e
        rcases List.mem_cons.mp hp with rfl | hp
        · exact GPc.ext (h q List.mem_cons_self) hx e
        · exact h p (List.mem_cons_of_mem _ hp)
      · rcases List.mem_cons.mp hp with rfl | hp
        · exact GPc.one hx
        · exact h p hp
theorem GPc.vpc (hN : ¬ N blk) {p : Pc ν} (g : GPc N blk p) (hm : p.m ≤ 3000) : VPc N blk p := by
  have h1 := g.pos
  have v0 : VFr N blk (p.n, p.f + p.s * ((0 : Nat) : Int)) := g.fr _ (List.mem_of_getElem? (p.film_at (k := 0) h1))
  have vl : VFr N blk (p.n, p.f + p.s * ((p.m - 1 : Nat) : Int)) := g.fr _ (List.mem_of_getElem? (p.film_at (k := p.m - 1) (by omega)))
  have e0 : p.f + p.s * ((0 : Nat) : Int) = p.f := by simp
  have el : ((p.m - 1 : Nat) : Int) = (p.m : Int) - 1 := by omega
  rw [e0] at v0
  rw [el] at vl
  rcases v0 with ⟨a, b⟩ | ⟨a, b, c⟩
  · have b : p.f = 0 := b
    have hs : p.s = 0 := by
      by_cases hm1 : p.m = 1
      · exact g.st hm1
      · have v1 : VFr N blk (p.n, p.f + p.s * ((1 : Nat) : Int)) := g.fr _ (List.mem_of_getElem? (p.film_at (k := 1) (by omega)))
        rcases v1 with ⟨_, d⟩ | ⟨d, _⟩
        · have d : p.f + p.s * ((1 : Nat) : Int) = 0 := d
          rw [b] at d
          simpa using d
        · have a : p.n = blk := a
          have d : N p.n := d
          rw [a] at d
          exact absurd d hN
    exact ⟨by omega, by omega, g.s0, g.s1, h1, hm, .inl ⟨a, b, hs⟩⟩
  · rcases vl with ⟨d, _⟩ | ⟨_, d, e⟩
    · have a : N p.n := a
      have d : p.n = blk := d
      rw [d] at a
      exact absurd a hN
    · exact ⟨b, c, g.s0, g.s1, h1, hm, .inr ⟨a, d, e⟩⟩
theorem m_le_len {ps : List (Pc ν)} {p : Pc ν} (h : p ∈ ps) : p.m ≤ len ps := by
  induction ps with
  | nil => cases h
  | cons q r ih =>
    have e : len (q :: r) = q.m + len r := by simp [len]
    rcases List.mem_cons.mp h with rfl | h
    · omega
    · have := ih h
      omega
theorem least_good (hN : ¬ N blk) {fs : List (Fr ν)} (v : ∀ x ∈ fs, VFr N blk x) (hl : fs.length ≤ 3000) : VRow N blk (least fs) := by
  refine ⟨fun p hp => ?_, by rw [len_least]; exact hl⟩
  have g : GPc N blk p := foldL_good fs [] v (fun _ h => nomatch h) p (by simpa [least] using hp)
  refine g.vpc hN ?_
  have := m_le_len hp
  rw [len_least] at this
  omega

/-! ### a row parted at a place -/
structure Part (N : ν → Prop) (blk : ν) (pre : List (Pc ν)) (at_ : Int) (a b : List (Pc ν)) : Prop where
  fa : film a = (film pre).take at_.toNat
  fb : film b = (film pre).drop at_.toNat
  va : VPcs N blk a
  vb : VPcs N blk b
  la : a.length ≤ pre.length
  lb : b.length ≤ pre.length
theorem Part.start (at_ : Int) : Part N blk [] at_ [] [] := ⟨by simp [film], by simp [film], (fun _ h => nomatch h), (fun _ h => nomatch h), Nat.le_refl _, Nat.le_refl _⟩
theorem VPcs.snoc {a : List (Pc ν)} {p : Pc ν} (h : VPcs N blk a) (v : VPc N blk p) : VPcs N blk (a ++ [p]) := fun q hq => by
  rcases List.mem_append.mp hq with hq | hq
  · exact h q hq
  · rw [List.mem_singleton.mp hq]
    exact v
theorem VPcs.app {a b : List (Pc ν)} (h : VPcs N blk a) (k : VPcs N blk b) : VPcs N blk (a ++ b) := fun q hq => by
  rcases List.mem_append.mp hq with hq | hq
  · exact h q hq
  · exact k q hq
theorem Part.ahead {pre a b : List (Pc ν)} {at_ : Int} {p : Pc ν} (w : Part N blk pre at_ a b) (v : VPc N blk p) (h : (p.m : Int) ≤ at_ - len pre) : Part N blk (pre ++ [p]) at_ (a ++ [p]) b := by
  have hl := film_len pre
  have hp := Pc.film_len p
  refine ⟨?_, ?_, w.va.snoc v, w.vb, by have := w.la; simp; omega, by have := w.lb; simp; omega⟩
  · rw [film_app, film_app, film_one, w.fa, List.take_of_length_le (by omega), List.take_of_length_le (by rw [List.length_append]; omega)]
  · rw [w.fb, film_app, film_one, List.drop_eq_nil_of_le (by omega), List.drop_eq_nil_of_le (by rw [List.length_append]; omega)]
theorem Part.behind {pre a b : List (Pc ν)} {at_ : Int} {p : Pc ν} (w : Part N blk pre at_ a b) (v : VPc N blk p) (h : at_ - len pre ≤ 0) : Part N blk (pre ++ [p]) at_ a (b ++ [p]) := by
  have hl := film_len pre
  refine ⟨?_, ?_, w.va, w.vb.snoc v, by have := w.la; simp; omega, by have := w.lb; simp; omega⟩
  · rw [w.fa, film_app, List.take_append_of_le_length (by omega)]
  · rw [film_app, w.fb, film_app, List.drop_append_of_le_length (by omega)]
theorem Pc.film_split (p : Pc ν) (k : Nat) (h : k ≤ p.m) : p.film = (Pc.film ⟨p.n, p.f, p.s, k⟩) ++ (Pc.film ⟨p.n, p.f + p.s * (k : Int), p.s, p.m - k⟩) := by
  unfold Pc.film
  obtain ⟨j, hj⟩ : ∃ j, p.m = k + j := ⟨p.m - k, by omega⟩
  simp only [hj]
  rw [List.range_add, List.map_append, List.map_map]
  congr 1
  rw [show k + j - k = j by omega]
  apply List.map_congr_left
  intro i _
  simp only [Function.comp]
  apply Prod.ext
  · rfl
  · show p.f + p.s * ((k + i : Nat) : Int) = p.f + p.s * (k : Int) + p.s * (i : Int)
    rw [Int.natCast_add, Int.mul_add]
    omega
theorem Part.mid {pre a b : List (Pc ν)} {at_ : Int} {p : Pc ν} {k : Nat} (w : Part N blk pre at_ a b) (v : VPc N blk p) (hk : (k : Int) = at_ - len pre) (h0 : 0 < k) (h1 : k < p.m) :
    Part N blk (pre ++ [p]) at_ (a ++ [⟨p.n, p.f, p.s, k⟩]) (b ++ [⟨p.n, p.f + p.s * (k : Int), p.s, p.m - k⟩]) := by
  have hl := film_len pre
  have hs := p.film_split k (by omega)
  have e : at_.toNat = (film pre).length + k := by omega
  have f0 := v.f0
  have f1 := v.f1
  have m1 := v.m1
  have v1 : VPc N blk ⟨p.n, p.f, p.s, k⟩ := by
    refine ⟨f0, f1, v.s0, v.s1, h0, by show k ≤ 3000; omega, ?_⟩
    rcases v.nm with c | ⟨c1, c2, c3⟩
    · exact .inl c
    · refine .inr ⟨c1, ?_⟩
      show 0 ≤ p.f + p.s * ((k : Int) - 1) ∧ p.f + p.s * ((k : Int) - 1) ≤ 9999
      rcases three v.s0 v.s1 with e | e | e <;> rw [e] at c2 c3 ⊢ <;> omega
  have v2 : VPc N blk ⟨p.n, p.f + p.s * (k : Int), p.s, p.m - k⟩ := by
    have em : ((p.m - k : Nat) : Int) = (p.m : Int) - k := by omega
    refine ⟨?_, ?_, v.s0, v.s1, by show 1 ≤ p.m - k; omega, by show p.m - k ≤ 3000; omega, ?_⟩
    · show 0 ≤ p.f + p.s * (k : Int)
      rcases v.nm with ⟨_, c, d⟩ | ⟨c1, c2, c3⟩
      · rw [c, d]; omega
      · rcases three v.s0 v.s1 with e | e | e <;> rw [e] at c2 c3 ⊢ <;> omega
    · show p.f + p.s * (k : Int) ≤ 9999
      rcases v.nm with ⟨_, c, d⟩ | ⟨c1, c2, c3⟩
      · rw [c, d]; omega
      · rcases three v.s0 v.s1 with e | e | e <;> rw [e] at c2 c3 ⊢ <;> omega
    · rcases v.nm with ⟨c0, c, d⟩ | ⟨c1, c2, c3⟩
      · refine .inl ⟨c0, ?_, d⟩
        show p.f + p.s * (k : Int) = 0
        rw [c, d]; omega
      · refine .inr ⟨c1, ?_⟩
        show 0 ≤ p.f + p.s * (k : Int) + p.s * (((p.m - k : Nat) : Int) - 1) ∧ p.f + p.s * (k : Int) + p.s * (((p.m - k : Nat) : Int) - 1) ≤ 9999
        rw [em]
        rcases three v.s0 v.s1 with e | e | e <;> rw [e] at c2 c3 ⊢ <;> omega
  refine ⟨?_, ?_, w.va.snoc v1, w.vb.snoc v2, by have := w.la; simp; omega, by have := w.lb; simp; omega⟩
  · rw [film_app, film_one, w.fa, e, film_app, film_one, hs, ← List.append_assoc, List.take_of_length_le (by omega)]
    rw [List.take_append_of_le_length (by rw [List.length_append, Pc.film_len]; exact Nat.le_refl _)]
    rw [List.take_of_length_le (by rw [List.length_append, Pc.film_len]; exact Nat.le_refl _)]
  · rw [film_app, film_one, w.fb, e, film_app, film_one, hs, ← List.append_assoc]
    rw [List.drop_eq_nil_of_le (by omega), List.nil_append]
    have e3 : (film pre).length + k = (film pre ++ Pc.film ⟨p.n, p.f, p.s, k⟩).length := by rw [List.length_append, Pc.film_len]
    rw [e3, List.drop_left]
end
end K62
/-! K62, the plain law, second part: deeds and their shapes, the joining, the names. -/
namespace K62
/-! ### shapes -/
class Shp (δ : Type) where
  a : δ → Nat
  o : δ → Nat
  n : δ → Nat
  mv : δ → Nat → δ
  a_mv : ∀ d x, a (mv d x) = x
  o_mv : ∀ d x, o (mv d x) = o d
  n_mv : ∀ d x, n (mv d x) = n d
  mv_mv : ∀ d x y, mv (mv d x) y = mv d y
  mv_a : ∀ d, mv d (a d) = d
open Shp
def clash {δ ε : Type} [Shp δ] [Shp ε] (d : δ) (e : ε) : Bool :=
  if o d = 0 ∧ o e = 0 then decide (a d = a e) else decide (a d < a e + o e ∧ a e < a d + o d)
def past {δ ε : Type} [Shp δ] [Shp ε] (d : δ) (e : ε) : δ := if a e + o e ≤ a d then mv d (a d + n e - o e) else d
def row1 {δ ε : Type} [Shp δ] [Shp ε] : List δ → ε → Option (List δ × ε)
  | [], t => some ([], t)
  | m :: ms, t => if clash m t = true then none else (row1 ms (past t m)).map fun r => (past m t :: r.1, r.2)
def join {δ ε : Type} [Shp δ] [Shp ε] : List δ → List ε → Option (List δ × List ε)
  | ones, [] => some (ones, [])
  | ones, t :: ts => (row1 ones t).bind fun r => (join r.1 ts).map fun q => (q.1, r.2 :: q.2)
/-- the same shape -/
def SS {δ ε : Type} [Shp δ] [Shp ε] (d : δ) (e : ε) : Prop := a d = a e ∧ o d = o e ∧ n d = n e
/-- the same but for the place -/
def PR {δ : Type} [Shp δ] (d e : δ) : Prop := ∃ x, e = mv d x
section
variable {δ ε δ' ε' : Type} [Shp δ] [Shp ε] [Shp δ'] [Shp ε']
theorem SS.clash {d : δ} {e : ε} {d' : δ'} {e' : ε'} (h : SS d d') (k : SS e e') : clash d e = clash d' e' := by
  obtain ⟨h1, h2, h3⟩ := h
  obtain ⟨k1, k2, k3⟩ := k
  unfold K62.clash
  rw [h1, h2, k1, k2]
theorem SS.past {d : δ} {e : ε} {d' : δ'} {e' : ε'} (h : SS d d') (k : SS e e') : SS (past d e) (past d' e') := by
  obtain ⟨h1, h2, h3⟩ := h
  obtain ⟨k1, k2, k3⟩ := k
  unfold K62.past
  rw [← h1, ← k1, ← k2]
  split
  · refine ⟨?_, ?_, ?_⟩
    · rw [a_mv, a_mv, k3]
    · rw [o_mv, o_mv, h2]
    · rw [n_mv, n_mv, h3]
  · exact ⟨h1, h2, h3⟩
theorem PR.refl (d : δ) : PR d d := ⟨a d, (mv_a d).symm⟩
theorem PR.past (d : δ) (e : ε) : PR d (past d e) := by
  unfold K62.past
  split
  · exact ⟨_, rfl⟩
  · exact PR.refl d
theorem PR.trans {d e f : δ} (h : PR d e) (k : PR e f) : PR d f := by
  obtain ⟨x, rfl⟩ := h
  obtain ⟨y, rfl⟩ := k
  exact ⟨y, mv_mv _ _ _⟩
theorem All2.refl' {α : Type} {R : α → α → Prop} (f : ∀ a, R a a) : ∀ l : List α, All2 R l l
  | [] => trivial
  | a :: l => ⟨f a, All2.refl' f l⟩
theorem row1_pr : ∀ {ones : List δ} {t : ε} {r : List δ × ε}, row1 ones t = some r → All2 PR ones r.1 ∧ PR t r.2
  | [], t, r, h => by
    cases h
    exact ⟨trivial, PR.refl t⟩
  | m :: ms, t, r, h => by
    unfold row1 at h
    split at h
    · cases h
    · obtain ⟨q, hq, rfl⟩ := Option.map_eq_some_iff.mp h
      obtain ⟨h1, h2⟩ := row1_pr hq
      exact ⟨⟨PR.past m t, h1⟩, (PR.past t m).trans h2⟩
theorem join_pr : ∀ {others : List ε} {ones : List δ} {r : List δ × List ε}, join ones others = some r → All2 PR ones r.1 ∧ All2 PR others r.2
  | [], ones, r, h => by
    have h : some (ones, []) = some r := by
      unfold join at h
      exact h
    cases h
    exact ⟨All2.refl' PR.refl ones, trivial⟩
  | t :: ts, ones, r, h => by
    unfold join at h
    obtain ⟨q, hq, h⟩ := Option.bind_eq_some_iff.mp h
    obtain ⟨p, hp, rfl⟩ := Option.map_eq_some_iff.mp h
    obtain ⟨h1, h2⟩ := row1_pr hq
    obtain ⟨h3, h4⟩ := join_pr hp
    exact ⟨All2.trans (R := PR) (T := PR) (U := PR) (fun _ _ _ x y => PR.trans x y) h1 h3, h2, h4⟩
theorem row1_ss : ∀ {ones : List δ} {t : ε} {ones' : List δ'} {t' : ε'} {r : List δ × ε}, All2 SS ones ones' → SS t t' → row1 ones t = some r →
    ∃ r' : List δ' × ε', row1 ones' t' = some r' ∧ All2 SS r.1 r'.1 ∧ SS r.2 r'.2
  | [], t, [], t', r, _, k, h => by
    cases h
    exact ⟨([], t'), rfl, trivial, k⟩
  | m :: ms, t, m' :: ms', t', r, hs, k, h => by
    unfold row1 at h
    split at h
    · cases h
    · rename_i nc
      obtain ⟨q, hq, rfl⟩ := Option.map_eq_some_iff.mp h
      obtain ⟨q', hq', s1, s2⟩ := row1_ss hs.2 (k.past hs.1) hq
      refine ⟨(past m' t' :: q'.1, q'.2), ?_, ⟨hs.1.past k, s1⟩, s2⟩
      unfold row1
      rw [← hs.1.clash k, if_neg nc, hq']
      rfl
  | [], _, _ :: _, _, _, hs, _, _ => hs.elim
  | _ :: _, _, [], _, _, hs, _, _ => hs.elim
theorem join_ss : ∀ {others : List ε} {ones : List δ} {others' : List ε'} {ones' : List δ'} {r : List δ × List ε}, All2 SS ones ones' → All2 SS others others' → join ones others = some r →
    ∃ r' : List δ' × List ε', join ones' others' = some r' ∧ All2 SS r.1 r'.1 ∧ All2 SS r.2 r'.2
  | [], ones, [], ones', r, hs, _, h => by
    have h : some (ones, []) = some r := by
      unfold join at h
      exact h
    cases h
    exact ⟨(ones', []), by unfold join; rfl, hs, trivial⟩
  | t :: ts, ones, t' :: ts', ones', r, hs, k, h => by
    unfold join at h
    obtain ⟨q, hq, h⟩ := Option.bind_eq_some_iff.mp h
    obtain ⟨p, hp, rfl⟩ := Option.map_eq_some_iff.mp h
    obtain ⟨q', hq', s1, s2⟩ := row1_ss hs k.1 hq
    obtain ⟨p', hp', s3, s4⟩ := join_ss s1 k.2 hp
    refine ⟨(p'.1, q'.2 :: p'.2), ?_, s3, s2, s4⟩
    unfold join
    rw [hq', Option.bind_some, hp']
    rfl
  | [], _, _ :: _, _, _, _, k, _ => k.elim
  | _ :: _, _, [], _, _, _, k, _ => k.elim
end

/-! ### deeds on lists of anything -/
structure G (α : Type) where
  a : Nat
  o : List α
  n : List α
instance (α : Type) : Shp (G α) where
  a g := g.a
  o g := g.o.length
  n g := g.n.length
  mv g x := { g with a := x }
  a_mv _ _ := rfl
  o_mv _ _ := rfl
  n_mv _ _ := rfl
  mv_mv _ _ _ := rfl
  mv_a _ := rfl
section
variable {α : Type}
/-- g fits l, and r comes of it -/
def Fit (l : List α) (g : G α) (r : List α) : Prop := ∃ x y, x.length = g.a ∧ l = x ++ g.o ++ y ∧ r = x ++ g.n ++ y
def FitL : List α → List (G α) → List α → Prop
  | l, [], r => l = r
  | l, g :: gs, r => ∃ m, Fit l g m ∧ FitL m gs r
theorem app_split {x1 z1 x2 z2 : List α} (h : x1 ++ z1 = x2 ++ z2) (hl : x1.length ≤ x2.length) : ∃ m, x2 = x1 ++ m ∧ z1 = m ++ z2 := by
  rcases List.append_eq_append_iff.mp h with ⟨m, e1, e2⟩ | ⟨m, e1, e2⟩
  · exact ⟨m, e1, e2⟩
  · have : m = [] := by
      rw [e1, List.length_append] at hl
      exact List.length_eq_zero_iff.mp (by omega)
    subst this
    exact ⟨[], by simpa using e1.symm, by simpa using e2.symm⟩
/-- e stands ahead of d -/
theorem cell_ahead {l m y : List α} {d e : G α} (hd : Fit l d m) (he : Fit l e y) (h : e.a + e.o.length ≤ d.a) : ∃ w, Fit m e w ∧ Fit y { d with a := d.a + e.n.length - e.o.length } w := by
  obtain ⟨xd, yd, ld, e1, e2⟩ := hd
  obtain ⟨xe, ye, le, e3, e4⟩ := he
  obtain ⟨z, h1, h2⟩ := app_split (x1 := xe ++ e.o) (z1 := ye) (x2 := xd) (z2 := d.o ++ yd) (by rw [← e3, e1, List.append_assoc]) (by rw [List.length_append]; omega)
  refine ⟨xe ++ e.n ++ z ++ d.n ++ yd, ⟨xe, z ++ d.n ++ yd, le, ?_, ?_⟩, ⟨xe ++ e.n ++ z, yd, ?_, ?_, ?_⟩⟩
  · rw [e2, h1]; simp only [List.append_assoc]
  · simp only [List.append_assoc]
  · rw [h1] at ld
    simp only [List.length_append] at ld ⊢
    omega
  · rw [e4, h2]; simp only [List.append_assoc]
  · rfl
theorem cell {l m y : List α} {d e : G α} (hd : Fit l d m) (he : Fit l e y) (h : clash d e = false) : ∃ w, Fit m (past e d) w ∧ Fit y (past d e) w := by
  have hc : ¬ (d.o.length = 0 ∧ e.o.length = 0 ∧ d.a = e.a) ∧ (d.a + d.o.length ≤ e.a ∨ e.a + e.o.length ≤ d.a) := by
    unfold clash at h
    have h : (if d.o.length = 0 ∧ e.o.length = 0 then decide (d.a = e.a) else decide (d.a < e.a + e.o.length ∧ e.a < d.a + d.o.length)) = false := h
    split at h
    · rename_i c
      have h := of_decide_eq_false h
      omega
    · rename_i c
      have h := of_decide_eq_false h
      omega
  obtain ⟨h0, h1⟩ := hc
  unfold past
  show ∃ w, Fit m (if d.a + d.o.length ≤ e.a then { e with a := e.a + d.n.length - d.o.length } else e) w ∧ Fit y (if e.a + e.o.length ≤ d.a then { d with a := d.a + e.n.length - e.o.length } else d) w
  rcases h1 with h1 | h1
  · rw [if_pos h1, if_neg (by omega)]
    obtain ⟨w, w1, w2⟩ := cell_ahead he hd h1
    exact ⟨w, w2, w1⟩
  · rw [if_neg (by omega), if_pos h1]
    exact cell_ahead hd he h1
theorem row1_fit : ∀ {ones : List (G α)} {t : G α} {r : List (G α) × G α} {b m y : List α}, row1 ones t = some r → FitL b ones m → Fit b t y → ∃ w, Fit m r.2 w ∧ FitL y r.1 w
  | [], t, r, b, m, y, h, hm, hy => by
    cases h
    have hm : b = m := hm
    subst hm
    exact ⟨y, hy, rfl⟩
  | d :: ds, t, r, b, m, y, h, hm, hy => by
    unfold row1 at h
    split at h
    · cases h
    · rename_i nc
      obtain ⟨q, hq, rfl⟩ := Option.map_eq_some_iff.mp h
      obtain ⟨m1, f1, f2⟩ := hm
      obtain ⟨w1, g1, g2⟩ := cell f1 hy (by simpa using nc)
      obtain ⟨w, k1, k2⟩ := row1_fit hq f2 g1
      exact ⟨w, k1, w1, g2, k2⟩
theorem join_fit : ∀ {others ones : List (G α)} {r : List (G α) × List (G α)} {b m y : List α}, join ones others = some r → FitL b ones m → FitL b others y → ∃ w, FitL m r.2 w ∧ FitL y r.1 w
  | [], ones, r, b, m, y, h, hm, hy => by
    have h : some (ones, []) = some r := by
      unfold join at h
      exact h
    cases h
    have hy : b = y := hy
    subst hy
    exact ⟨m, rfl, hm⟩
  | t :: ts, ones, r, b, m, y, h, hm, hy => by
    unfold join at h
    obtain ⟨q, hq, h⟩ := Option.bind_eq_some_iff.mp h
    obtain ⟨p, hp, rfl⟩ := Option.map_eq_some_iff.mp h
    obtain ⟨y1, f1, f2⟩ := hy
    obtain ⟨w1, g1, g2⟩ := row1_fit hq hm f1
    obtain ⟨w, k1, k2⟩ := join_fit hp g2 f2
    exact ⟨w, ⟨w1, g1, k1⟩, k2⟩

/-! ### what is counted -/
section
variable [DecidableEq α]
theorem Fit.count {l r : List α} {g : G α} (h : Fit l g r) (x : α) : r.count x + g.o.count x = l.count x + g.n.count x := by
  obtain ⟨u, v, _, rfl, rfl⟩ := h
  simp only [List.count_append]
  omega
def sumO (x : α) (gs : List (G α)) : Nat := (gs.map fun g => g.o.count x).sum
def sumN (x : α) (gs : List (G α)) : Nat := (gs.map fun g => g.n.count x).sum
theorem FitL.count (x : α) : ∀ {gs : List (G α)} {l r : List α}, FitL l gs r → r.count x + sumO x gs = l.count x + sumN x gs
  | [], l, r, h => by
    have h : l = r := h
    subst h
    rfl
  | g :: gs, l, r, ⟨m, h1, h2⟩ => by
    have e1 := h1.count x
    have e2 := FitL.count x h2
    simp only [sumO, sumN, List.map_cons, List.sum_cons] at e2 ⊢
    omega
theorem PR.same {g h : G α} (p : PR g h) : h.o = g.o ∧ h.n = g.n := by
  obtain ⟨x, rfl⟩ := p
  exact ⟨rfl, rfl⟩
theorem sums_pr (x : α) : ∀ {gs hs : List (G α)}, All2 PR gs hs → sumO x hs = sumO x gs ∧ sumN x hs = sumN x gs
  | [], [], _ => ⟨rfl, rfl⟩
  | g :: gs, h :: hs, p => by
    obtain ⟨e1, e2⟩ := p.1.same
    obtain ⟨e3, e4⟩ := sums_pr x p.2
    simp only [sumO, sumN, List.map_cons, List.sum_cons] at e3 e4 ⊢
    rw [e1, e2, e3, e4]
    exact ⟨rfl, rfl⟩
  | [], _ :: _, p => p.elim
  | _ :: _, [], p => p.elim
/-- THE COUNT of all four corners -/
theorem corners {b m y w : List α} {others others' : List (G α)} (h1 : FitL b others y) (h2 : FitL m others' w) (p : All2 PR others others') (x : α) : w.count x + b.count x = m.count x + y.count x := by
  have e1 := h1.count x
  have e2 := h2.count x
  obtain ⟨e3, e4⟩ := sums_pr x p
  omega
end
/-! ### what is left, in its order -/
theorem Fit.sub {l r : List α} {g : G α} (h : Fit l g r) (P : α → Bool) (hn : ∀ x ∈ g.n, P x = false) : (r.filter P).Sublist (l.filter P) := by
  obtain ⟨u, v, _, rfl, rfl⟩ := h
  have e : g.n.filter P = [] := List.filter_eq_nil_iff.mpr fun x hx => by rw [hn x hx]; decide
  simp only [List.filter_append, e, List.append_nil]
  exact List.Sublist.append (List.sublist_append_left _ _) (List.Sublist.refl _)
theorem FitL.sub (P : α → Bool) : ∀ {gs : List (G α)} {l r : List α}, FitL l gs r → (∀ g ∈ gs, ∀ x ∈ g.n, P x = false) → (r.filter P).Sublist (l.filter P)
  | [], l, r, h, _ => by
    have h : l = r := h
    subst h
    exact List.Sublist.refl _
  | g :: gs, l, r, ⟨m, h1, h2⟩, hn => (FitL.sub P h2 fun z hz => hn z (List.mem_cons_of_mem _ hz)).trans (h1.sub P (hn g List.mem_cons_self))
theorem sub_eq {l a : List α} [DecidableEq α] (h : a.Sublist l) (nd : l.Nodup) : a = l.filter fun x => decide (x ∈ a) := by
  induction h with
  | slnil => rfl
  | cons x s ih =>
    rename_i a l
    have nd := List.nodup_cons.mp nd
    have hx : x ∉ a := fun q => nd.1 (s.subset q)
    rw [List.filter_cons, if_neg (by simpa using hx)]
    exact ih nd.2
  | cons_cons x s ih =>
    rename_i a l
    have nd := List.nodup_cons.mp nd
    rw [List.filter_cons, if_pos (by simp)]
    congr 1
    refine (ih nd.2).trans (List.filter_congr fun y hy => ?_)
    have hyx : y ≠ x := fun q => nd.1 (q ▸ hy)
    simp [hyx]
theorem sub_same {l a b : List α} [DecidableEq α] (h : a.Sublist l) (k : b.Sublist l) (nd : l.Nodup) (e : ∀ x, x ∈ a ↔ x ∈ b) : a = b := by
  rw [sub_eq h nd, sub_eq k nd]
  exact List.filter_congr fun x _ => by simp [e x]
/-- lengths go by shapes -/
theorem Fit.len {l r : List α} {g : G α} (h : Fit l g r) : r.length + g.o.length = l.length + g.n.length := by
  obtain ⟨u, v, _, rfl, rfl⟩ := h
  simp only [List.length_append]
  omega
theorem Fit.at_ {l r : List α} {g : G α} (h : Fit l g r) : g.a + g.o.length ≤ l.length := by
  obtain ⟨u, v, e, rfl, rfl⟩ := h
  simp only [List.length_append]
  omega
theorem Fit.app {l r : List α} {g : G α} (h : Fit l g r) : r = l.take g.a ++ g.n ++ l.drop (g.a + g.o.length) ∧ (l.drop g.a).take g.o.length = g.o := by
  obtain ⟨u, v, e, rfl, rfl⟩ := h
  constructor
  · rw [← e]
    congr 1
    · rw [List.append_assoc, List.take_left]
    · rw [show u.length + g.o.length = (u ++ g.o).length by rw [List.length_append], List.drop_left]
  · rw [← e, List.append_assoc, List.drop_left, List.take_left]
theorem Fit.mk {l : List α} {g : G α} (h : g.a + g.o.length ≤ l.length) (e : (l.drop g.a).take g.o.length = g.o) : Fit l g (l.take g.a ++ g.n ++ l.drop (g.a + g.o.length)) := by
  refine ⟨l.take g.a, l.drop (g.a + g.o.length), by rw [List.length_take]; omega, ?_, rfl⟩
  conv => lhs; rw [← List.take_append_drop g.a l, ← List.take_append_drop g.o.length (l.drop g.a), e, List.drop_drop]
  rw [List.append_assoc]
end
section
variable {α β : Type}
theorem FitL.lens : ∀ {gs : List (G α)} {hs : List (G β)} {l r : List α} {l' r' : List β}, All2 SS gs hs → FitL l gs r → FitL l' hs r' → l.length = l'.length → r.length = r'.length
  | [], [], l, r, l', r', _, h, k, e => by
    have h : l = r := h
    have k : l' = r' := k
    rw [← h, ← k, e]
  | g :: gs, h :: hs, l, r, l', r', s, ⟨m, h1, h2⟩, ⟨m', k1, k2⟩, e => by
    have e1 := h1.len
    have e2 := k1.len
    obtain ⟨_, s2, s3⟩ := s.1
    have s2 : g.o.length = h.o.length := s2
    have s3 : g.n.length = h.n.length := s3
    exact FitL.lens s.2 h2 k2 (by omega)
  | [], _ :: _, _, _, _, _, s, _, _, _ => s.elim
  | _ :: _, [], _, _, _, _, s, _, _, _ => s.elim
end
end K62
/-! K62, the plain law, third part: the deeds of the program, the frames by names, and the law itself. -/
namespace K62
inductive Kd where
  | put | out | over
  deriving DecidableEq
section
variable {ν : Type} [DecidableEq ν]
structure Dd (ν : Type) where
  k : Kd
  a : Nat
  p : List (Pc ν)
  q : List (Pc ν)
def Dd.old (d : Dd ν) : List (Fr ν) := match d.k with
  | .put => []
  | _ => film d.p
def Dd.new (d : Dd ν) : List (Fr ν) := match d.k with
  | .put => film d.p
  | .out => []
  | .over => film d.q
def Dd.o (d : Dd ν) : Nat := match d.k with
  | .put => 0
  | _ => len d.p
def Dd.nn (d : Dd ν) : Nat := match d.k with
  | .out => 0
  | _ => len d.p
def Dd.G (d : Dd ν) : G (Fr ν) := ⟨d.a, d.old, d.new⟩
instance : Shp (Dd ν) where
  a d := d.a
  o d := d.o
  n d := d.nn
  mv d x := { d with a := x }
  a_mv _ _ := rfl
  o_mv _ _ := rfl
  n_mv _ _ := rfl
  mv_mv _ _ _ := rfl
  mv_a _ := rfl
variable {N : ν → Prop} {blk : ν}
/-- a part: a least row with a frame or more -/
structure VPart (N : ν → Prop) (blk : ν) (p : List (Pc ν)) : Prop where
  row : VRow N blk p
  ne : p ≠ []
  lst : least (film p) = p
/-- a deed that is one, of no great parts -/
structure VDd (N : ν → Prop) (blk : ν) (d : Dd ν) : Prop where
  p : VPart N blk d.p
  s : len d.p ≤ 100
  q : d.k = .over → VPart N blk d.q ∧ len d.q = len d.p
theorem VPart.pos {p : List (Pc ν)} (v : VPart N blk p) : 0 < len p := by
  cases p with
  | nil => exact absurd rfl v.ne
  | cons x r =>
    have e : len (x :: r) = x.m + len r := by simp [len]
    have := (v.row.1 x List.mem_cons_self).m0
    omega
theorem VPart.of_film (hN : ¬ N blk) {fs : List (Fr ν)} (v : ∀ x ∈ fs, VFr N blk x) (hl : fs.length ≤ 3000) (ne : fs ≠ []) : VPart N blk (least fs) :=
  ⟨least_good hN v hl, least_ne ne, by rw [least_film]⟩
theorem VDd.ss {d : Dd ν} (v : VDd N blk d) : SS d d.G := by
  refine ⟨rfl, ?_, ?_⟩
  · show d.o = d.old.length
    unfold Dd.o Dd.old
    cases d.k <;> first | rfl | exact (film_len _).symm
  · show d.nn = d.new.length
    have h := v.q
    unfold Dd.nn Dd.new
    cases e : d.k <;> first | rfl | exact (film_len _).symm | skip
    show len d.p = (film d.q).length
    rw [film_len]
    exact (h e).2.symm
theorem VDd.mv {d e : Dd ν} (v : VDd N blk d) (h : PR d e) : VDd N blk e := by
  obtain ⟨x, rfl⟩ := h
  exact ⟨v.p, v.s, v.q⟩
theorem VDd.nle {d : Dd ν} (v : VDd N blk d) : d.nn ≤ 100 := by
  have := v.s
  unfold Dd.nn
  split <;> omega
def VDds (N : ν → Prop) (blk : ν) (ds : List (Dd ν)) : Prop := ∀ d ∈ ds, VDd N blk d
theorem VDds.pr : ∀ {ds es : List (Dd ν)}, VDds N blk ds → All2 PR ds es → VDds N blk es
  | [], [], v, _ => v
  | d :: ds, e :: es, v, h => fun x hx => by
    rcases List.mem_cons.mp hx with rfl | hx
    · exact (v d List.mem_cons_self).mv h.1
    · exact VDds.pr (ds := ds) (fun y hy => v y (List.mem_cons_of_mem _ hy)) h.2 x hx
  | [], _ :: _, _, h => h.elim
  | _ :: _, [], _, h => h.elim
theorem VDds.ssG : ∀ {ds : List (Dd ν)}, VDds N blk ds → All2 (fun (g : K62.G (Fr ν)) (d : Dd ν) => SS d g) (ds.map Dd.G) ds
  | [], _ => trivial
  | d :: ds, v => ⟨(v d List.mem_cons_self).ss, VDds.ssG fun y hy => v y (List.mem_cons_of_mem _ hy)⟩
theorem VDds.ss : ∀ {ds : List (Dd ν)}, VDds N blk ds → All2 SS ds (ds.map Dd.G)
  | [], _ => trivial
  | d :: ds, v => ⟨(v d List.mem_cons_self).ss, VDds.ss fun y hy => v y (List.mem_cons_of_mem _ hy)⟩

/-! ### frames by names -/
structure Tag where
  w : Int
  i : Int
  k : Int
  deriving DecidableEq
def names (who : Int) (i size : Nat) : List Tag := (List.range size).map fun (k : Nat) => ⟨who, (i : Int), (k : Int)⟩
def nn (who : Int) (i : Nat) (d : Dd ν) : List Tag := match d.k with
  | .out => []
  | _ => names who i (len d.p)
def nstep (who : Int) (l : List Tag) (i : Nat) (d : Dd ν) : List Tag := l.take d.a ++ nn who i d ++ l.drop (d.a + d.o)
def named (who : Int) : List Tag → Nat → List (Dd ν) → List Tag
  | l, _, [] => l
  | l, i, d :: ds => named who (nstep who l i d) (i + 1) ds
theorem named_snoc (who : Int) (d : Dd ν) : ∀ (ds : List (Dd ν)) (l : List Tag) (i : Nat), named who l i (ds ++ [d]) = nstep who (named who l i ds) (i + ds.length) d
  | [], l, i => rfl
  | e :: ds, l, i => by
    show named who (nstep who l i e) (i + 1) (ds ++ [d]) = _
    rw [named_snoc who d ds]
    show nstep who (named who (nstep who l i e) (i + 1) ds) (i + 1 + ds.length) d = nstep who (named who (nstep who l i e) (i + 1) ds) (i + (ds.length + 1)) d
    rw [show i + 1 + ds.length = i + (ds.length + 1) by omega]
theorem nn_len (who : Int) (i : Nat) (d : Dd ν) : (nn who i d).length = d.nn := by
  unfold nn Dd.nn
  cases d.k <;> simp [names]
def GN (who : Int) : Nat → List (Dd ν) → List (G Tag) → Prop
  | _, [], [] => True
  | i, d :: ds, g :: gs => SS d g ∧ g.n = nn who i d ∧ GN who (i + 1) ds gs
  | _, _, _ => False
theorem GN.ss {who : Int} : ∀ {ds : List (Dd ν)} {gs : List (G Tag)} {i : Nat}, GN who i ds gs → All2 SS ds gs
  | [], [], _, _ => trivial
  | _ :: _, _ :: _, _, h => ⟨h.1, GN.ss h.2.2⟩
  | [], _ :: _, _, h => h.elim
  | _ :: _, [], _, h => h.elim
theorem GN.pr {who : Int} : ∀ {ds es : List (Dd ν)} {gs hs : List (G Tag)} {i : Nat}, GN who i ds gs → All2 PR ds es → All2 PR gs hs → All2 SS es hs → GN who i es hs
  | [], [], [], [], _, _, _, _, _ => trivial
  | d :: ds, e :: es, g :: gs, h :: hs, i, w, p, q, s => by
    refine ⟨s.1, ?_, GN.pr w.2.2 p.2 q.2 s.2⟩
    obtain ⟨x, hx⟩ := p.1
    rw [(PR.same q.1).2, w.2.1, hx]
    rfl
  | [], _ :: _, _, _, _, _, p, _, _ => p.elim
  | _ :: _, [], _, _, _, _, p, _, _ => p.elim
  | [], [], [], _ :: _, _, _, _, q, _ => q.elim
  | [], [], _ :: _, _, _, w, _, _, _ => w.elim
  | _ :: _, _ :: _, [], _, _, w, _, _, _ => w.elim
  | _ :: _, _ :: _, _ :: _, [], _, _, _, q, _ => q.elim
theorem GN.named {who : Int} : ∀ {ds : List (Dd ν)} {gs : List (G Tag)} {i : Nat} {l r : List Tag}, GN who i ds gs → FitL l gs r → r = named who l i ds
  | [], [], _, l, r, _, h => by
    have h : l = r := h
    exact h.symm
  | d :: ds, g :: gs, i, l, r, w, ⟨m, h1, h2⟩ => by
    have e := h1.app.1
    obtain ⟨⟨s1, s2, _⟩, s4, s5⟩ := w
    have s1 : d.a = g.a := s1
    have s2 : d.o = g.o.length := s2
    have e2 : m = nstep who l i d := by
      rw [e, s4]
      unfold nstep
      rw [s1, s2]
    rw [GN.named s5 h2, e2]
    rfl
  | [], _ :: _, _, _, _, w, _ => w.elim
  | _ :: _, [], _, _, _, w, _ => w.elim
theorem GN.make (who : Int) : ∀ {ds : List (Dd ν)} {F R : List (Fr ν)} {l : List Tag} (i : Nat), VDds N blk ds → FitL F (ds.map Dd.G) R → l.length = F.length → ∃ gs, GN who i ds gs ∧ FitL l gs (K62.named who l i ds)
  | [], F, R, l, i, _, _, _ => ⟨[], trivial, rfl⟩
  | d :: ds, F, R, l, i, v, ⟨m, h1, h2⟩, e => by
    have vd := v d List.mem_cons_self
    obtain ⟨_, s2, s3⟩ := vd.ss
    have s2 : d.o = d.old.length := s2
    have s3 : d.nn = d.new.length := s3
    have ha : d.a + d.old.length ≤ F.length := h1.at_
    have hl : ((l.drop d.a).take d.o).length = d.o := by rw [List.length_take, List.length_drop]; omega
    have f : Fit l (⟨d.a, (l.drop d.a).take d.o, nn who i d⟩ : G Tag) (nstep who l i d) := by
      have z := Fit.mk (l := l) (g := (⟨d.a, (l.drop d.a).take d.o, nn who i d⟩ : G Tag)) (by show d.a + ((l.drop d.a).take d.o).length ≤ l.length; rw [hl]; omega) (by show (l.drop d.a).take ((l.drop d.a).take d.o).length = _; rw [hl])
      have z2 : nstep who l i d = l.take d.a ++ nn who i d ++ l.drop (d.a + ((l.drop d.a).take d.o).length) := by
        rw [hl]
        rfl
      rw [z2]
      exact z
    have el : (nstep who l i d).length = m.length := by
      have e1 := f.len
      have e2 : m.length + d.old.length = F.length + d.new.length := h1.len
      have e1 : (nstep who l i d).length + ((l.drop d.a).take d.o).length = l.length + (nn who i d).length := e1
      rw [hl, nn_len] at e1
      omega
    obtain ⟨gs, g1, g2⟩ := GN.make who (ds := ds) (i + 1) (fun y hy => v y (List.mem_cons_of_mem _ hy)) h2 el
    exact ⟨_ :: gs, ⟨⟨rfl, hl.symm, by show d.nn = (nn who i d).length; rw [nn_len]⟩, rfl, g1⟩, _, f, g2⟩
theorem mem_names {who : Int} {i size : Nat} {x : Tag} : x ∈ names who i size ↔ x.w = who ∧ x.i = (i : Int) ∧ ∃ k : Nat, k < size ∧ x.k = (k : Int) := by
  unfold names
  rw [List.mem_map]
  constructor
  · rintro ⟨k, hk, rfl⟩
    exact ⟨rfl, rfl, k, by simpa using hk, rfl⟩
  · rintro ⟨h1, h2, k, hk, h3⟩
    refine ⟨k, by simpa using hk, ?_⟩
    obtain ⟨x1, x2, x3⟩ := x
    simp only at h1 h2 h3
    rw [h1, h2, h3]
theorem mem_nn {who : Int} {i : Nat} {d : Dd ν} {x : Tag} (h : x ∈ nn who i d) : x.w = who ∧ x.i = (i : Int) := by
  unfold nn at h
  split at h
  · cases h
  · exact ⟨(mem_names.mp h).1, (mem_names.mp h).2.1⟩
theorem range_nd {β : Type} (f : Nat → β) (hf : ∀ a b, f a = f b → a = b) : ∀ n : Nat, ((List.range n).map f).Nodup
  | 0 => List.nodup_nil
  | n + 1 => by
    rw [List.range_succ, List.map_append, List.nodup_append]
    refine ⟨range_nd f hf n, by simp, ?_⟩
    rintro a ha b hb rfl
    obtain ⟨k, hk, e⟩ := List.mem_map.mp ha
    obtain ⟨j, hj, e2⟩ := List.mem_map.mp hb
    have hk : k < n := by simpa using hk
    have hj : j = n := by simpa using hj
    have := hf k j (e.trans e2.symm)
    omega
theorem names_nd (who : Int) (i size : Nat) : (names who i size).Nodup := range_nd _ (fun a b h => by
  have h2 : ((a : Nat) : Int) = ((b : Nat) : Int) := congrArg (fun x : Tag => x.k) h
  omega) size
theorem nn_nd (who : Int) (i : Nat) (d : Dd ν) : (nn who i d).Nodup := by
  unfold nn
  split
  · exact List.nodup_nil
  · exact names_nd _ _ _
theorem count_le_one {β : Type} [DecidableEq β] {l : List β} (nd : l.Nodup) (x : β) : l.count x ≤ 1 := List.nodup_iff_count.mp nd x
/-- the new names of a list of deeds: of this cutter, each once -/
theorem GN.sums {who : Int} (x : Tag) : ∀ {ds : List (Dd ν)} {gs : List (G Tag)} {i : Nat}, GN who i ds gs → (x.w ≠ who → sumN x gs = 0) ∧ (x.i < (i : Int) → sumN x gs = 0) ∧ sumN x gs ≤ 1
  | [], [], _, _ => ⟨fun _ => rfl, fun _ => rfl, Nat.zero_le _⟩
  | d :: ds, g :: gs, i, w => by
    obtain ⟨_, e, w⟩ := w
    obtain ⟨h1, h2, h3⟩ := GN.sums x w
    have es : sumN x (g :: gs) = (nn who i d).count x + sumN x gs := by
      unfold sumN
      rw [List.map_cons, List.sum_cons, e]
    have c1 := count_le_one (nn_nd who i d) x
    refine ⟨fun hx => ?_, fun hx => ?_, ?_⟩
    · rw [es, h1 hx, List.count_eq_zero.mpr fun q => hx (mem_nn q).1]
    · rw [es, h2 (by omega), List.count_eq_zero.mpr fun q => by have := (mem_nn q).2; omega]
    · by_cases q : x ∈ nn who i d
      · have := (mem_nn q).2
        have := h2 (by omega)
        omega
      · rw [List.count_eq_zero.mpr q] at es
        omega
  | [], _ :: _, _, w => w.elim
  | _ :: _, [], _, w => w.elim
theorem GN.mem {who : Int} : ∀ {ds : List (Dd ν)} {gs : List (G Tag)} {i : Nat}, GN who i ds gs → ∀ g ∈ gs, ∀ x ∈ g.n, x.w = who
  | [], [], _, _, _, h, _, _ => nomatch h
  | d :: ds, g :: gs, i, w, h, hh, x, hx => by
    rcases List.mem_cons.mp hh with rfl | hh
    · rw [w.2.1] at hx
      exact (mem_nn hx).1
    · exact GN.mem w.2.2 h hh x hx
  | [], _ :: _, _, w, _, _, _, _ => w.elim
  | _ :: _, [], _, w, _, _, _, _ => w.elim

def base (n : Nat) : List Tag := (List.range n).map fun (k : Nat) => ⟨0, 0, (k : Int)⟩
theorem base_nd (n : Nat) : (base n).Nodup := range_nd _ (fun a b h => by
  have h2 : ((a : Nat) : Int) = ((b : Nat) : Int) := congrArg (fun x : Tag => x.k) h
  omega) n
theorem base_len (n : Nat) : (base n).length = n := by simp [base]
theorem mem_base {n : Nat} {x : Tag} (h : x ∈ base n) : x.w = 0 := by
  obtain ⟨k, _, rfl⟩ := List.mem_map.mp h
  rfl
/-- what the named frames behind one cutter's deeds are -/
structure Side (who : Int) (b m : List Tag) : Prop where
  nd : m.Nodup
  tag : ∀ x ∈ m, x.w = 0 ∨ x.w = who
  old : ∀ x ∈ m, x.w = 0 → x ∈ b
theorem side {who : Int} (hw : who ≠ 0) {n : Nat} {ds : List (Dd ν)} {gs : List (G Tag)} {m : List Tag} (g : GN who 0 ds gs) (f : FitL (base n) gs m) : Side who (base n) m := by
  have key : ∀ x : Tag, m.count x ≤ 1 ∧ (x ∈ m → (x.w = 0 ∧ x ∈ base n) ∨ x.w = who) := fun x => by
    have e := f.count x
    obtain ⟨h1, _, h3⟩ := g.sums x
    have c := count_le_one (base_nd n) x
    by_cases hx : x.w = who
    · have hb : x ∉ base n := fun q => hw (by rw [← hx]; exact mem_base q)
      rw [List.count_eq_zero.mpr hb] at e
      exact ⟨by omega, fun _ => .inr hx⟩
    · have := h1 hx
      refine ⟨by omega, fun q => .inl ?_⟩
      have hp : 0 < m.count x := List.count_pos_iff.mpr q
      have hb : x ∈ base n := List.count_pos_iff.mp (by omega)
      exact ⟨mem_base hb, hb⟩
  refine ⟨List.nodup_iff_count.mpr fun x => (key x).1, fun x hx => ?_, fun x hx h0 => ?_⟩
  · rcases (key x).2 hx with h | h
    · exact .inl h.1
    · exact .inr h
  · rcases (key x).2 hx with h | h
    · exact h.2
    · exact absurd (h.symm.trans h0) hw

/-- what the law asks of the four lists of names -/
structure Asked (b mine yours whole : List Tag) : Prop where
  one : whole.filter (fun x => decide (x.w = 0)) = b.filter fun x => decide (x ∈ mine) && decide (x ∈ yours)
  two : whole.filter (fun x => decide (x ∈ mine)) = mine.filter fun x => decide (x.w = 1) || decide (x ∈ yours)
  three : whole.filter (fun x => decide (x ∈ yours)) = yours.filter fun x => decide (x.w = 2) || decide (x ∈ mine)
theorem asked {n : Nat} {b m y w : List Tag} {ones' others' : List (G Tag)} (hb : b = base n) (sm : Side 1 b m) (sy : Side 2 b y) (f1 : FitL m others' w) (f2 : FitL y ones' w)
    (n1 : ∀ g ∈ others', ∀ x ∈ g.n, x.w = 2) (n2 : ∀ g ∈ ones', ∀ x ∈ g.n, x.w = 1) (cnt : ∀ x, w.count x + b.count x = m.count x + y.count x) (fb : (m.filter fun x => decide (x.w = 0)).Sublist b) : Asked b m y w := by
  have nb : b.Nodup := by rw [hb]; exact base_nd n
  have tb : ∀ x ∈ b, x.w = 0 := fun x hx => by rw [hb] at hx; exact mem_base hx
  have s1 : (w.filter fun x => decide (x.w ≠ 2)).Sublist (m.filter fun x => decide (x.w ≠ 2)) := f1.sub _ fun g hg x hx => by simp [n1 g hg x hx]
  have s2 : (w.filter fun x => decide (x.w ≠ 1)).Sublist (y.filter fun x => decide (x.w ≠ 1)) := f2.sub _ fun g hg x hx => by simp [n2 g hg x hx]
  have s0 : (w.filter fun x => decide (x.w = 0)).Sublist (m.filter fun x => decide (x.w = 0)) := f1.sub _ fun g hg x hx => by simp [n1 g hg x hx]
  have mw : ∀ x, x ∈ w ↔ (x.w = 0 ∧ x ∈ m ∧ x ∈ y) ∨ (x.w ≠ 0 ∧ x ∈ m) ∨ (x.w ≠ 0 ∧ x ∈ y) := fun x => by
    have e := cnt x
    have c1 := count_le_one sm.nd x
    have c2 := count_le_one sy.nd x
    have c3 := count_le_one nb x
    have p1 : x ∈ w ↔ 0 < w.count x := List.count_pos_iff.symm
    have p2 : x ∈ m ↔ 0 < m.count x := List.count_pos_iff.symm
    have p3 : x ∈ y ↔ 0 < y.count x := List.count_pos_iff.symm
    have p4 : x ∈ b ↔ 0 < b.count x := List.count_pos_iff.symm
    by_cases h0 : x.w = 0
    · have q1 : x ∈ m → x ∈ b := fun h => sm.old x h h0
      have q2 : x ∈ y → x ∈ b := fun h => sy.old x h h0
      rw [p1, p2, p3]
      rw [p2, p4] at q1
      rw [p3, p4] at q2
      omega
    · have q : ¬ x ∈ b := fun h => h0 (tb x h)
      rw [p4] at q
      rw [p1, p2, p3]
      omega
  refine ⟨?_, ?_, ?_⟩
  · refine sub_same (s0.trans fb) List.filter_sublist nb fun x => ?_
    rw [List.mem_filter, List.mem_filter]
    simp only [Bool.and_eq_true, decide_eq_true_eq]
    rw [mw x]
    constructor
    · rintro ⟨h, h0⟩
      have hmy : x ∈ m ∧ x ∈ y := by
        rcases h with h | h | h
        · exact h.2
        · exact absurd h0 h.1
        · exact absurd h0 h.1
      exact ⟨sm.old x hmy.1 h0, hmy⟩
    · rintro ⟨h, hm, hy⟩
      exact ⟨.inl ⟨tb x h, hm, hy⟩, tb x h⟩
  · have e : w.filter (fun x => decide (x ∈ m)) = (w.filter fun x => decide (x.w ≠ 2)).filter fun x => decide (x ∈ m) := by
      rw [List.filter_filter]
      refine List.filter_congr fun x _ => ?_
      by_cases hx : x ∈ m
      · have : x.w ≠ 2 := fun h2 => by
          rcases sm.tag x hx with h | h <;> rw [h2] at h <;> exact absurd h (by decide)
        simp [hx, this]
      · simp [hx]
    refine sub_same (l := m) ?_ List.filter_sublist sm.nd fun x => ?_
    · rw [e]
      exact List.filter_sublist.trans (s1.trans List.filter_sublist)
    · rw [List.mem_filter, List.mem_filter]
      simp only [Bool.or_eq_true, decide_eq_true_eq]
      rw [mw x]
      constructor
      · rintro ⟨h, hm⟩
        refine ⟨hm, ?_⟩
        rcases h with h | h | h
        · exact .inr h.2.2
        · rcases sm.tag x hm with k | k
          · exact absurd k h.1
          · exact .inl k
        · exact .inr h.2
      · rintro ⟨hm, h⟩
        refine ⟨?_, hm⟩
        by_cases h0 : x.w = 0
        · rcases h with h | h
          · rw [h0] at h
            exact absurd h (by decide)
          · exact .inl ⟨h0, hm, h⟩
        · exact .inr (.inl ⟨h0, hm⟩)
  · have e : w.filter (fun x => decide (x ∈ y)) = (w.filter fun x => decide (x.w ≠ 1)).filter fun x => decide (x ∈ y) := by
      rw [List.filter_filter]
      refine List.filter_congr fun x _ => ?_
      by_cases hx : x ∈ y
      · have : x.w ≠ 1 := fun h2 => by
          rcases sy.tag x hx with h | h <;> rw [h2] at h <;> exact absurd h (by decide)
        simp [hx, this]
      · simp [hx]
    refine sub_same (l := y) ?_ List.filter_sublist sy.nd fun x => ?_
    · rw [e]
      exact List.filter_sublist.trans (s2.trans List.filter_sublist)
    · rw [List.mem_filter, List.mem_filter]
      simp only [Bool.or_eq_true, decide_eq_true_eq]
      rw [mw x]
      constructor
      · rintro ⟨h, hm⟩
        refine ⟨hm, ?_⟩
        rcases h with h | h | h
        · exact .inr h.2.1
        · exact .inr h.2
        · rcases sy.tag x hm with k | k
          · exact absurd k h.1
          · exact .inl k
      · rintro ⟨hm, h⟩
        refine ⟨?_, hm⟩
        by_cases h0 : x.w = 0
        · rcases h with h | h
          · rw [h0] at h
            exact absurd h (by decide)
          · exact .inl ⟨h0, h, hm⟩
        · exact .inr (.inr ⟨h0, hm⟩)

theorem map_of_pr : ∀ {ds es : List (Dd ν)} {hs : List (G (Fr ν))}, All2 PR ds es → All2 PR (ds.map Dd.G) hs → All2 SS es hs → hs = es.map Dd.G
  | [], [], [], _, _, _ => rfl
  | d :: ds, e :: es, h :: hs, p, q, s => by
    obtain ⟨x, hx⟩ := p.1
    obtain ⟨y, hy⟩ := q.1
    obtain ⟨s1, _, _⟩ := s.1
    rw [List.map_cons, map_of_pr p.2 q.2 s.2]
    congr 1
    rw [hx, hy] at s1
    have s1 : x = y := s1
    rw [hx, hy, s1]
    rfl
  | [], _ :: _, _, p, _, _ => p.elim
  | _ :: _, [], _, p, _, _ => p.elim
  | [], [], _ :: _, _, q, _ => q.elim
  | _ :: _, _ :: _, [], _, q, _ => q.elim
/-- THE PLAIN LAW -/
theorem whole {F M Y : List (Fr ν)} {ones others : List (Dd ν)} {r : List (Dd ν) × List (Dd ν)} (v1 : VDds N blk ones) (v2 : VDds N blk others) (f1 : FitL F (ones.map Dd.G) M) (f2 : FitL F (others.map Dd.G) Y)
    (hj : join ones others = some r) : ∃ W, FitL M (r.2.map Dd.G) W ∧ VDds N blk r.2 ∧ r.2.length = others.length ∧
      Asked (base F.length) (named 1 (base F.length) 0 ones) (named 2 (base F.length) 0 others) (named 2 (named 1 (base F.length) 0 ones) 0 r.2) ∧
      W.length = (named 2 (named 1 (base F.length) 0 ones) 0 r.2).length := by
  obtain ⟨p1, p2⟩ := join_pr hj
  obtain ⟨r', hj', s1, s2⟩ := join_ss v1.ss v2.ss hj
  obtain ⟨q1, q2⟩ := join_pr hj'
  obtain ⟨W, w1, w2⟩ := join_fit hj' f1 f2
  have er : r'.2 = r.2.map Dd.G := map_of_pr p2 q2 s2
  rw [er] at w1
  obtain ⟨g1, n1, k1⟩ := GN.make 1 (l := base F.length) 0 v1 f1 (base_len _)
  obtain ⟨g2, n2, k2⟩ := GN.make 2 (l := base F.length) 0 v2 f2 (base_len _)
  obtain ⟨t, ht, t1, t2⟩ := join_ss n1.ss n2.ss hj
  obtain ⟨u1, u2⟩ := join_pr ht
  obtain ⟨w, x1, x2⟩ := join_fit ht k1 k2
  have m2 : GN 2 0 r.2 t.2 := n2.pr p2 u2 t2
  have m1 : GN 1 0 r.1 t.1 := n1.pr p1 u1 t1
  have ew : w = named 2 (named 1 (base F.length) 0 ones) 0 r.2 := m2.named x1
  have sm := side (by decide) n1 k1
  have sy := side (by decide) n2 k2
  have ask := asked rfl sm sy x1 x2 m2.mem m1.mem (fun x => corners k2 x1 u2 x) (by
    have h := k1.sub (fun x => decide (x.w = 0)) fun g hg x hx => by simp [n1.mem g hg x hx]
    exact h.trans List.filter_sublist)
  have lm : M.length = (named 1 (base F.length) 0 ones).length := by
    have a : All2 SS (ones.map Dd.G) g1 :=
      All2.trans (R := fun (g : G (Fr ν)) (d : Dd ν) => SS d g) (T := SS) (U := SS) (fun a b c h k => ⟨h.1.symm.trans k.1, h.2.1.symm.trans k.2.1, h.2.2.symm.trans k.2.2⟩) v1.ssG n1.ss
    exact FitL.lens a f1 k1 (base_len _).symm
  have lw : W.length = w.length := by
    have a : All2 SS (r.2.map Dd.G) t.2 :=
      All2.trans (R := fun (g : G (Fr ν)) (d : Dd ν) => SS d g) (T := SS) (U := SS) (fun a b c h k => ⟨h.1.symm.trans k.1, h.2.1.symm.trans k.2.1, h.2.2.symm.trans k.2.2⟩) (v2.pr p2).ssG t2
    exact FitL.lens a w1 x1 lm
  refine ⟨W, w1, v2.pr p2, p2.len.symm, ?_, ?_⟩
  · rw [← ew]
    exact ask
  · rw [← ew]
    exact lw
end
end K62
/-! K62, the walk, its ground: the text by places, what stands in the heap, small helpers. -/
namespace K62
open PySem PySem.Spec PyProof.Rows L2
/-! ### the text by places -/
def top (i : Nat) : Stmt := PySem.Challenge.pw_cutroom_k62_whole_nothing_lost.main.body.getD i (.Pass ⟨0, 0, 0, 0⟩)
abbrev s_is_number : Stmt := top 12
def N_is_number : List Str := ["thing", "low", "high"]
theorem sc_is_number : FnScope N_is_number ["thing", "low", "high"] (defScope s_is_number) := ⟨rfl, rfl, rfl, by decide +kernel, rfl, by decide +kernel, by decide +kernel⟩
abbrev s_is_name : Stmt := top 13
def N_is_name : List Str := ["thing", "sign"]
theorem sc_is_name : FnScope N_is_name ["thing"] (defScope s_is_name) := ⟨rfl, rfl, rfl, by decide +kernel, rfl, by decide +kernel, by decide +kernel⟩
abbrev s_is_piece : Stmt := top 14
def N_is_piece : List Str := ["thing", "name", "first", "step", "many"]
theorem sc_is_piece : FnScope N_is_piece ["thing"] (defScope s_is_piece) := ⟨rfl, rfl, rfl, by decide +kernel, rfl, by decide +kernel, by decide +kernel⟩
abbrev s_length_of : Stmt := top 15
def N_length_of : List Str := ["row", "piece"]
theorem sc_length_of : FnScope N_length_of ["row"] (defScope s_length_of) := ⟨rfl, rfl, rfl, by decide +kernel, rfl, by decide +kernel, by decide +kernel⟩
abbrev s_is_row : Stmt := top 16
def N_is_row : List Str := ["thing", "piece"]
theorem sc_is_row : FnScope N_is_row ["thing"] (defScope s_is_row) := ⟨rfl, rfl, rfl, by decide +kernel, rfl, by decide +kernel, by decide +kernel⟩
abbrev s_checked : Stmt := top 17
def N_checked : List Str := ["row"]
theorem sc_checked : FnScope N_checked ["row"] (defScope s_checked) := ⟨rfl, rfl, rfl, by decide +kernel, rfl, by decide +kernel, by decide +kernel⟩
abbrev s_frames_of : Stmt := top 18
def N_frames_of : List Str := ["piece", "name", "first", "step", "many", "k"]
theorem sc_frames_of : FnScope N_frames_of ["piece"] (defScope s_frames_of) := ⟨rfl, rfl, rfl, by decide +kernel, rfl, by decide +kernel, by decide +kernel⟩
abbrev s_film_of : Stmt := top 19
def N_film_of : List Str := ["row", "found", "piece"]
theorem sc_film_of : FnScope N_film_of ["row"] (defScope s_film_of) := ⟨rfl, rfl, rfl, by decide +kernel, rfl, by decide +kernel, by decide +kernel⟩
abbrev s_film : Stmt := top 20
def N_film : List Str := ["row"]
theorem sc_film : FnScope N_film ["row"] (defScope s_film) := ⟨rfl, rfl, rfl, by decide +kernel, rfl, by decide +kernel, by decide +kernel⟩
abbrev s_run_from : Stmt := top 21
def N_run_from : List Str := ["frames", "at", "name", "first", "step", "many"]
theorem sc_run_from : FnScope N_run_from ["frames", "at"] (defScope s_run_from) := ⟨rfl, rfl, rfl, by decide +kernel, rfl, by decide +kernel, by decide +kernel⟩
abbrev s_fewest_of : Stmt := top 22
def N_fewest_of : List Str := ["frames", "found", "at", "step", "many"]
theorem sc_fewest_of : FnScope N_fewest_of ["frames"] (defScope s_fewest_of) := ⟨rfl, rfl, rfl, by decide +kernel, rfl, by decide +kernel, by decide +kernel⟩
abbrev s_least : Stmt := top 23
def N_least : List Str := ["row"]
theorem sc_least : FnScope N_least ["row"] (defScope s_least) := ⟨rfl, rfl, rfl, by decide +kernel, rfl, by decide +kernel, by decide +kernel⟩
abbrev s_parted_at : Stmt := top 25
def N_parted_at : List Str := ["row", "place", "ahead", "behind", "left", "name", "first", "step", "many"]
theorem sc_parted_at : FnScope N_parted_at ["row", "place"] (defScope s_parted_at) := ⟨rfl, rfl, rfl, by decide +kernel, rfl, by decide +kernel, by decide +kernel⟩
abbrev s_need_place : Stmt := top 26
def N_need_place : List Str := ["row", "place"]
theorem sc_need_place : FnScope N_need_place ["row", "place"] (defScope s_need_place) := ⟨rfl, rfl, rfl, by decide +kernel, rfl, by decide +kernel, by decide +kernel⟩
abbrev s_short : Stmt := top 27
def N_short : List Str := ["row"]
theorem sc_short : FnScope N_short ["row"] (defScope s_short) := ⟨rfl, rfl, rfl, by decide +kernel, rfl, by decide +kernel, by decide +kernel⟩
abbrev s_put_in : Stmt := top 28
def N_put_in : List Str := ["row", "place", "more", "ahead", "behind"]
theorem sc_put_in : FnScope N_put_in ["row", "place", "more"] (defScope s_put_in) := ⟨rfl, rfl, rfl, by decide +kernel, rfl, by decide +kernel, by decide +kernel⟩
abbrev s_without : Stmt := top 29
def N_without : List Str := ["row", "place", "many"]
theorem sc_without : FnScope N_without ["row", "place", "many"] (defScope s_without) := ⟨rfl, rfl, rfl, by decide +kernel, rfl, by decide +kernel, by decide +kernel⟩
abbrev s_laid_over : Stmt := top 30
def N_laid_over : List Str := ["row", "place", "more"]
theorem sc_laid_over : FnScope N_laid_over ["row", "place", "more"] (defScope s_laid_over) := ⟨rfl, rfl, rfl, by decide +kernel, rfl, by decide +kernel, by decide +kernel⟩
abbrev s_is_part : Stmt := top 32
def N_is_part : List Str := ["thing"]
theorem sc_is_part : FnScope N_is_part ["thing"] (defScope s_is_part) := ⟨rfl, rfl, rfl, by decide +kernel, rfl, by decide +kernel, by decide +kernel⟩
abbrev s_is_place : Stmt := top 33
def N_is_place : List Str := ["thing"]
theorem sc_is_place : FnScope N_is_place ["thing"] (defScope s_is_place) := ⟨rfl, rfl, rfl, by decide +kernel, rfl, by decide +kernel, by decide +kernel⟩
abbrev s_is_deed : Stmt := top 34
def N_is_deed : List Str := ["thing"]
theorem sc_is_deed : FnScope N_is_deed ["thing"] (defScope s_is_deed) := ⟨rfl, rfl, rfl, by decide +kernel, rfl, by decide +kernel, by decide +kernel⟩
abbrev s_frames_in : Stmt := top 35
def N_frames_in : List Str := ["deed"]
theorem sc_frames_in : FnScope N_frames_in ["deed"] (defScope s_frames_in) := ⟨rfl, rfl, rfl, by decide +kernel, rfl, by decide +kernel, by decide +kernel⟩
abbrev s_growth : Stmt := top 36
def N_growth : List Str := ["deed"]
theorem sc_growth : FnScope N_growth ["deed"] (defScope s_growth) := ⟨rfl, rfl, rfl, by decide +kernel, rfl, by decide +kernel, by decide +kernel⟩
abbrev s_at_place : Stmt := top 37
def N_at_place : List Str := ["deed", "place"]
theorem sc_at_place : FnScope N_at_place ["deed", "place"] (defScope s_at_place) := ⟨rfl, rfl, rfl, by decide +kernel, rfl, by decide +kernel, by decide +kernel⟩
abbrev s_shows : Stmt := top 38
def N_shows : List Str := ["row", "place", "part", "some"]
theorem sc_shows : FnScope N_shows ["row", "place", "part"] (defScope s_shows) := ⟨rfl, rfl, rfl, by decide +kernel, rfl, by decide +kernel, by decide +kernel⟩
abbrev s_done_on : Stmt := top 39
def N_done_on : List Str := ["row", "deed"]
theorem sc_done_on : FnScope N_done_on ["row", "deed"] (defScope s_done_on) := ⟨rfl, rfl, rfl, by decide +kernel, rfl, by decide +kernel, by decide +kernel⟩
abbrev s_mark_ahead : Stmt := top 40
def N_mark_ahead : List Str := ["deed"]
theorem sc_mark_ahead : FnScope N_mark_ahead ["deed"] (defScope s_mark_ahead) := ⟨rfl, rfl, rfl, by decide +kernel, rfl, by decide +kernel, by decide +kernel⟩
abbrev s_need_deeds : Stmt := top 42
def N_need_deeds : List Str := ["thing", "deed"]
theorem sc_need_deeds : FnScope N_need_deeds ["thing"] (defScope s_need_deeds) := ⟨rfl, rfl, rfl, by decide +kernel, rfl, by decide +kernel, by decide +kernel⟩
abbrev s_all_done : Stmt := top 43
def N_all_done : List Str := ["row", "deeds", "deed"]
theorem sc_all_done : FnScope N_all_done ["row", "deeds"] (defScope s_all_done) := ⟨rfl, rfl, rfl, by decide +kernel, rfl, by decide +kernel, by decide +kernel⟩
abbrev s_do_clash : Stmt := top 44
def N_do_clash : List Str := ["one", "other", "first", "till", "start", "end"]
theorem sc_do_clash : FnScope N_do_clash ["one", "other"] (defScope s_do_clash) := ⟨rfl, rfl, rfl, by decide +kernel, rfl, by decide +kernel, by decide +kernel⟩
abbrev s_past : Stmt := top 45
def N_past : List Str := ["one", "other"]
theorem sc_past : FnScope N_past ["one", "other"] (defScope s_past) := ⟨rfl, rfl, rfl, by decide +kernel, rfl, by decide +kernel, by decide +kernel⟩
abbrev s_J_init : Stmt := inClass (top 46) 0
def N_J_init : List Str := ["self", "ones", "others"]
theorem sc_J_init : FnScope N_J_init ["self", "ones", "others"] (defScope s_J_init) := ⟨rfl, rfl, rfl, by decide +kernel, rfl, by decide +kernel, by decide +kernel⟩
abbrev s_J_join : Stmt := inClass (top 46) 1
def N_J_join : List Str := ["self", "number", "theirs", "behind", "at", "mine"]
theorem sc_J_join : FnScope N_J_join ["self"] (defScope s_J_join) := ⟨rfl, rfl, rfl, by decide +kernel, rfl, by decide +kernel, by decide +kernel⟩
abbrev s_joiner_of : Stmt := top 47
def N_joiner_of : List Str := ["row", "ones", "others"]
theorem sc_joiner_of : FnScope N_joiner_of ["row", "ones", "others"] (defScope s_joiner_of) := ⟨rfl, rfl, rfl, by decide +kernel, rfl, by decide +kernel, by decide +kernel⟩
abbrev s_clash : Stmt := top 48
def N_clash : List Str := ["row", "ones", "others"]
theorem sc_clash : FnScope N_clash ["row", "ones", "others"] (defScope s_clash) := ⟨rfl, rfl, rfl, by decide +kernel, rfl, by decide +kernel, by decide +kernel⟩
abbrev s_joined : Stmt := top 49
def N_joined : List Str := ["row", "ones", "others", "joiner", "whole"]
theorem sc_joined : FnScope N_joined ["row", "ones", "others"] (defScope s_joined) := ⟨rfl, rfl, rfl, by decide +kernel, rfl, by decide +kernel, by decide +kernel⟩
abbrev s_law_cell : Stmt := top 51
def N_law_cell : List Str := ["_law_script", "_law_k"]
theorem sc_law_cell : FnScope N_law_cell ["_law_script", "_law_k"] (defScope s_law_cell) := ⟨rfl, rfl, rfl, by decide +kernel, rfl, by decide +kernel, by decide +kernel⟩
abbrev s_law_drawn : Stmt := top 52
def N_law_drawn : List Str := ["_law_script", "_law_k", "_law_many", "_law_cell_here"]
theorem sc_law_drawn : FnScope N_law_drawn ["_law_script", "_law_k", "_law_many"] (defScope s_law_drawn) := ⟨rfl, rfl, rfl, by decide +kernel, rfl, by decide +kernel, by decide +kernel⟩
abbrev s_law_names : Stmt := top 53
def N_law_names : List Str := ["_law_script", "_law_at", "_law_found", "_law_j", "_law_size", "_law_signs", "_law_k", "_law_sign"]
theorem sc_law_names : FnScope N_law_names ["_law_script", "_law_at"] (defScope s_law_names) := ⟨rfl, rfl, rfl, by decide +kernel, rfl, by decide +kernel, by decide +kernel⟩
abbrev s_law_piece : Stmt := top 54
def N_law_piece : List Str := ["_law_script", "_law_at", "_law_names_here", "_law_many", "_law_step", "_law_low", "_law_high", "_law_spot", "_law_first"]
theorem sc_law_piece : FnScope N_law_piece ["_law_script", "_law_at", "_law_names_here"] (defScope s_law_piece) := ⟨rfl, rfl, rfl, by decide +kernel, rfl, by decide +kernel, by decide +kernel⟩
abbrev s_law_row : Stmt := top 55
def N_law_row : List Str := ["_law_script", "_law_at", "_law_most", "_law_names_here", "_law_found", "_law_k", "_law_piece_here", "_law_name", "_law_first", "_law_step", "_law_many", "_law_behind"]
theorem sc_law_row : FnScope N_law_row ["_law_script", "_law_at", "_law_most", "_law_names_here"] (defScope s_law_row) := ⟨rfl, rfl, rfl, by decide +kernel, rfl, by decide +kernel, by decide +kernel⟩
abbrev s_law_film : Stmt := top 56
def N_law_film : List Str := ["_law_row_here", "_law_found", "_law_name", "_law_first", "_law_step", "_law_many", "_law_k"]
theorem sc_law_film : FnScope N_law_film ["_law_row_here"] (defScope s_law_film) := ⟨rfl, rfl, rfl, by decide +kernel, rfl, by decide +kernel, by decide +kernel⟩
abbrev s_law_least : Stmt := top 57
def N_law_least : List Str := ["_law_frames", "_law_found", "_law_name", "_law_number", "_law_last", "_law_first", "_law_step", "_law_many"]
theorem sc_law_least : FnScope N_law_least ["_law_frames"] (defScope s_law_least) := ⟨rfl, rfl, rfl, by decide +kernel, rfl, by decide +kernel, by decide +kernel⟩
abbrev s_law_deed : Stmt := top 58
def N_law_deed : List Str := ["_law_script", "_law_at", "_law_frames", "_law_names_here", "_law_near", "_law_more", "_law_place", "_law_many", "_law_way", "_law_some"]
theorem sc_law_deed : FnScope N_law_deed ["_law_script", "_law_at", "_law_frames", "_law_names_here", "_law_near"] (defScope s_law_deed) := ⟨rfl, rfl, rfl, by decide +kernel, rfl, by decide +kernel, by decide +kernel⟩
abbrev s_law_acted : Stmt := top 59
def N_law_acted : List Str := ["_law_frames", "_law_deed_here", "_law_place", "_law_part", "_law_more"]
theorem sc_law_acted : FnScope N_law_acted ["_law_frames", "_law_deed_here"] (defScope s_law_acted) := ⟨rfl, rfl, rfl, by decide +kernel, rfl, by decide +kernel, by decide +kernel⟩
abbrev s_law_list : Stmt := top 60
def N_law_list : List Str := ["_law_script", "_law_at", "_law_frames", "_law_names_here", "_law_found", "_law_k", "_law_deed_here"]
theorem sc_law_list : FnScope N_law_list ["_law_script", "_law_at", "_law_frames", "_law_names_here"] (defScope s_law_list) := ⟨rfl, rfl, rfl, by decide +kernel, rfl, by decide +kernel, by decide +kernel⟩
abbrev s_law_named : Stmt := top 61
def N_law_named : List Str := ["_law_frames", "_law_deeds", "_law_who", "_law_number", "_law_deed_here", "_law_size", "_law_new", "_law_k", "_law_piece_here"]
theorem sc_law_named : FnScope N_law_named ["_law_frames", "_law_deeds", "_law_who"] (defScope s_law_named) := ⟨rfl, rfl, rfl, by decide +kernel, rfl, by decide +kernel, by decide +kernel⟩
abbrev s_law : Stmt := top 62
def N_law : List Str := ["_law_script", "_law_names_here", "_law_row_here", "_law_frames", "_law_ones", "_law_others", "_law_theirs", "_law_base", "_law_mine", "_law_yours", "_law_whole", "_law_k", "_law_one", "_law_piece_here"]
theorem sc_law : FnScope N_law ["_law_script"] (defScope s_law) := ⟨rfl, rfl, rfl, by decide +kernel, rfl, by decide +kernel, by decide +kernel⟩

/-! ### names of the module, builtins -/
theorem bt_len : bootBuiltins "len" = some (.builtin "len") := by decide +kernel
theorem bt_isinstance : bootBuiltins "isinstance" = some (.builtin "isinstance") := by decide +kernel
theorem bt_int : bootBuiltins "int" = some (.type "int") := by decide +kernel
theorem bt_bool : bootBuiltins "bool" = some (.type "bool") := by decide +kernel
theorem bt_str : bootBuiltins "str" = some (.type "str") := by decide +kernel
theorem bt_tuple : bootBuiltins "tuple" = some (.type "tuple") := by decide +kernel
theorem bt_list : bootBuiltins "list" = some (.type "list") := by decide +kernel
theorem bt_all : bootBuiltins "all" = some (.builtin "all") := by decide +kernel
theorem bt_sum : bootBuiltins "sum" = some (.builtin "sum") := by decide +kernel
theorem bt_max : bootBuiltins "max" = some (.builtin "max") := by decide +kernel
theorem bt_min : bootBuiltins "min" = some (.builtin "min") := by decide +kernel
def lettersS : Str := "abcdefghijklmnopqrstuvwxyz"
structure Tx (mg : Str → Option Value) : Prop where
  b_len : mg "len" = none
  b_isinstance : mg "isinstance" = none
  b_int : mg "int" = none
  b_bool : mg "bool" = none
  b_str : mg "str" = none
  b_tuple : mg "tuple" = none
  b_list : mg "list" = none
  b_all : mg "all" = none
  b_sum : mg "sum" = none
  b_max : mg "max" = none
  b_min : mg "min" = none
  b_range : mg "range" = none
  b_enumerate : mg "enumerate" = none
  c_MOST_FRAMES : ∃ u, mg "MOST_FRAMES" = some u ∧ RelV (.int 3000) u
  c_MOST_NUMBER : ∃ u, mg "MOST_NUMBER" = some u ∧ RelV (.int 9999) u
  c_LETTERS : ∃ u, mg "LETTERS" = some u ∧ RelV (.str lettersS) u
/-- a def of the module -/
structure DefF (K : PySem.W.Frag) (mg : Str → Option Value) (x : Str) (st : Stmt) : Prop where
  ex : ∃ (f : Addr) (fd : FuncData), FunD K x x (defArgs st) (defBody st) (defScope st) [] [] f fd ∧ mg x = some (.ref f)
section
variable {P : Program} {w : World} {K : PySem.W.Frag} {mg : Str → Option Value} {base : Heap}
/-- THE RULE for a def of the module -/
theorem DefF.cal {x : Str} {st : Stmt} {N ps : List Str} {k : Nat} {sp : Sp} (D : DefF K mg x st) (S : FnScope N ps (defScope st))
    (hb : ∀ (kV doc pm : Value) (an : Option Addr) (cdv ct : Value) (us : List Value), us.length = ps.length → bindArgs (PySem.W.fnOf x x (defArgs st) (defBody st) (defScope st) .none kV doc pm an cdv ct) ⟨us, []⟩ = pure (ps.zip us))
    (len : ∀ vs H Q E, sp vs H Q E → vs.length = ps.length)
    (hbody : ∀ (f : Addr) (cdv : Value) (A : Around) (outer : List Env) (s : Shared) (H : Hp) (vs : List V) (Q : VK) (E : XK), Room k (A.deeper (envOfC x (defScope st) s.heap.objs.size f cdv)) → sp vs H Q E →
      ∃ t, PSs (cxOf CX0 P w K mg base N x (defScope st) f cdv A outer s H E).nox (defBody st) t ∧ t { nx := fun _ H' => Q .non H', rt := Q } (start N vs) H) : C8.Cal P w K mg base (k + 1) x sp [] := by
  obtain ⟨f, fd, F, hm⟩ := D.ex
  have b : Binds K fd ps [] := F.bindsN hb
  refine ⟨f, fd, ps, [], F.ok S len (fun cdv A outer s H vs Q E hr hsp => ?_), hm, F.kp, b, .nil⟩
  obtain ⟨t, h, q⟩ := hbody f cdv A outer s H vs Q E hr hsp
  exact ⟨t, h.nox, q⟩
end
theorem hu65 {A : Around} {k : Nat} (hr : Room k A) : A.units + 65 < cLine := by
  have := hr.un
  omega
/-! ### heaps -/
theorem sm_new {H : Hp} {p : Addr} {o : HO} (h : H p = none) : Same H (upd H p o) := fun b x e => by
  rw [upd_ne (ne_of_none e h)]
  exact e
/-- an object that H does not know may change -/
theorem sm_mut {H H' : Hp} {p : Addr} {o : HO} (e : Same H H') (h : H p = none) : Same H (upd H' p o) := fun a u ha => by
  rw [upd_ne (ne_of_none ha h)]
  exact e a u ha
theorem alc1 {H H1 : Hp} {p : Addr} {o : HO} (np : H p = none) (he : upd H p o = H1) : Same H H1 ∧ H1 p = some o := by
  subst he
  exact ⟨sm_new np, upd_same⟩
/-- the tuples stay -/
def TS (H H' : Hp) : Prop := ∀ a xs, H a = some (.tup xs) → H' a = some (.tup xs)
theorem TS.refl (H : Hp) : TS H H := fun _ _ h => h
theorem TS.trans {H H1 H2 : Hp} (a : TS H H1) (b : TS H1 H2) : TS H H2 := fun x xs h => b x xs (a x xs h)
theorem ts_of {H H' : Hp} (s : Same H H') : TS H H' := fun a xs h => s a _ h
theorem TS.lst {H : Hp} {p : Addr} {o : HO} {xs : List V} (h : H p = some (.lst xs)) : TS H (upd H p o) := fun a ys e => by
  rw [upd_ne (ne_of e h (by intro z; cases z))]
  exact e
/-- a list of ours is changed: what comes of it, said without upd -/
theorem chg1 {H0 H H1 : Hp} {p : Addr} {xs : List V} {o : HO} (s : Same H0 H) (np : H0 p = none) (hp : H p = some (.lst xs)) (he : upd H p o = H1) : Same H0 H1 ∧ H1 p = some o ∧ TS H H1 ∧ ∀ a, a ≠ p → H1 a = H a := by
  subst he
  exact ⟨sm_mut s np, upd_same, TS.lst hp, fun a ha => upd_ne ha⟩
/-! ### what stands there -/
abbrev Fs := Fr Str
abbrev Ps := Pc Str
abbrev Ds := Dd Str
section
variable {H H' : Hp}
def IsFr (H : Hp) (v : V) (x : Fs) : Prop := ∃ a, v = .ref a ∧ H a = some (.tup [.str x.1, .int x.2])
def IsPc (H : Hp) (v : V) (p : Ps) : Prop := ∃ a, v = .ref a ∧ H a = some (.tup [.str p.n, .int p.f, .int p.s, .int (p.m : Int)])
def IsRow (H : Hp) (v : V) (ps : List Ps) : Prop := ∃ a xs, v = .ref a ∧ H a = some (.tup xs) ∧ All2 (IsPc H) xs ps
def IsFilm (H : Hp) (v : V) (fs : List Fs) : Prop := ∃ a xs, v = .ref a ∧ H a = some (.lst xs) ∧ All2 (IsFr H) xs fs
def kw : Kd → Str
  | .put => "put"
  | .out => "out"
  | .over => "over"
def IsDd (H : Hp) (v : V) (d : Ds) : Prop := ∃ a r rest, v = .ref a ∧ H a = some (.tup (.str (kw d.k) :: .int (d.a : Int) :: r :: rest)) ∧ IsRow H r d.p ∧ ((d.k ≠ .over ∧ rest = []) ∨ (d.k = .over ∧ ∃ q, rest = [q] ∧ IsRow H q d.q))
def IsDds (H : Hp) (v : V) (ds : List Ds) : Prop := ∃ a xs, v = .ref a ∧ H a = some (.lst xs) ∧ All2 (IsDd H) xs ds
def IsTag (H : Hp) (v : V) (x : Tag) : Prop := ∃ a, v = .ref a ∧ H a = some (.tup [.int x.w, .int x.i, .int x.k])
def IsTags (H : Hp) (v : V) (ts : List Tag) : Prop := ∃ a xs, v = .ref a ∧ H a = some (.lst xs) ∧ All2 (IsTag H) xs ts
def IsStrs (H : Hp) (v : V) (xs : List Str) : Prop := ∃ a, v = .ref a ∧ H a = some (.lst (xs.map V.str))
theorem IsFr.ts {v : V} {x : Fs} (h : IsFr H v x) (e : TS H H') : IsFr H' v x := let ⟨a, h1, h2⟩ := h; ⟨a, h1, e _ _ h2⟩
theorem IsPc.ts {v : V} {x : Ps} (h : IsPc H v x) (e : TS H H') : IsPc H' v x := let ⟨a, h1, h2⟩ := h; ⟨a, h1, e _ _ h2⟩
theorem IsTag.ts {v : V} {x : Tag} (h : IsTag H v x) (e : TS H H') : IsTag H' v x := let ⟨a, h1, h2⟩ := h; ⟨a, h1, e _ _ h2⟩
theorem IsRow.ts {v : V} {ps : List Ps} (h : IsRow H v ps) (e : TS H H') : IsRow H' v ps := let ⟨a, xs, h1, h2, h3⟩ := h; ⟨a, xs, h1, e _ _ h2, h3.mono fun _ _ z => z.ts e⟩
theorem IsDd.ts {v : V} {d : Ds} (h : IsDd H v d) (e : TS H H') : IsDd H' v d := by
  obtain ⟨a, r, rest, h1, h2, h3, h4⟩ := h
  refine ⟨a, r, rest, h1, e _ _ h2, h3.ts e, ?_⟩
  rcases h4 with h4 | ⟨k, q, h5, h6⟩
  · exact .inl h4
  · exact .inr ⟨k, q, h5, h6.ts e⟩
theorem IsRow.sm {v : V} {ps : List Ps} (h : IsRow H v ps) (e : Same H H') : IsRow H' v ps := h.ts (ts_of e)
theorem IsDd.sm {v : V} {d : Ds} (h : IsDd H v d) (e : Same H H') : IsDd H' v d := h.ts (ts_of e)
theorem IsFilm.sm {v : V} {fs : List Fs} (h : IsFilm H v fs) (e : Same H H') : IsFilm H' v fs := let ⟨a, xs, h1, h2, h3⟩ := h; ⟨a, xs, h1, e _ _ h2, h3.mono fun _ _ z => z.ts (ts_of e)⟩
theorem IsDds.sm {v : V} {ds : List Ds} (h : IsDds H v ds) (e : Same H H') : IsDds H' v ds := let ⟨a, xs, h1, h2, h3⟩ := h; ⟨a, xs, h1, e _ _ h2, h3.mono fun _ _ z => z.ts (ts_of e)⟩
theorem IsTags.sm {v : V} {ts : List Tag} (h : IsTags H v ts) (e : Same H H') : IsTags H' v ts := let ⟨a, xs, h1, h2, h3⟩ := h; ⟨a, xs, h1, e _ _ h2, h3.mono fun _ _ z => z.ts (ts_of e)⟩
theorem IsStrs.sm {v : V} {xs : List Str} (h : IsStrs H v xs) (e : Same H H') : IsStrs H' v xs := let ⟨a, h1, h2⟩ := h; ⟨a, h1, e _ _ h2⟩
end
/-! ### good names -/
def Nm (z : Str) : Prop := 1 ≤ z.length ∧ z.length ≤ 6 ∧ ∀ c ∈ z.cps.toList, c ∈ lettersS.cps.toList
theorem nm_blk : ¬ Nm "" := fun h => by
  have := h.1
  exact absurd this (by decide +kernel)
abbrev VRw (ps : List Ps) : Prop := VRow Nm ("" : Str) ps
abbrev VPx (p : Ps) : Prop := VPc Nm ("" : Str) p
abbrev VDx (d : Ds) : Prop := VDd Nm ("" : Str) d
/-! ### isinstance -/
theorem isi {K : PySem.W.Frag} {H : Hp} {Q : VK} {x : V} {t T : String} {b : Bool} (h : TyX K H x (.type t)) (e : kitB t T = some b) (q : Q (.bl b) H) : rIsi K [x, .ty T] H Q := ⟨x, .ty T, .type t, .type T, b, rfl, .ty T, h, kit_ty e, q⟩
theorem kit_ii : kitB "int" "int" = some true := by decide +kernel
theorem kit_ib : kitB "int" "bool" = some false := by decide +kernel
theorem kit_ss : kitB "str" "str" = some true := by decide +kernel
theorem kit_tt : kitB "tuple" "tuple" = some true := by decide +kernel
theorem kit_ll : kitB "list" "list" = some true := by decide +kernel
theorem ty_i {K : PySem.W.Frag} {H : Hp} {i : Int} : TyX K H (.int i) (.type "int") := .base (.int i)
theorem ty_s {K : PySem.W.Frag} {H : Hp} {z : Str} : TyX K H (.str z) (.type "str") := .base (.str z)
theorem ty_t {K : PySem.W.Frag} {H : Hp} {a : Addr} {xs : List V} (h : H a = some (.tup xs)) : TyX K H (.ref a) (.type "tuple") := .base (.tup h)
theorem ty_l {K : PySem.W.Frag} {H : Hp} {a : Addr} {xs : List V} (h : H a = some (.lst xs)) : TyX K H (.ref a) (.type "list") := .base (.lst h)
theorem sqT {K : PySem.W.Frag} {H : Hp} {a : Addr} {xs : List V} (h : H a = some (.tup xs)) : SqT K H a xs := .inl (.inl h)
theorem sqL {K : PySem.W.Frag} {H : Hp} {a : Addr} {xs : List V} (h : H a = some (.lst xs)) : SqL K H a xs := .inl (.inl h)
theorem iteB {b : Bool} {A B : Prop} (e : b = true) (h : A) : if b = true then A else B := by
  rw [if_pos e]
  exact h
theorem iteC {b : Bool} {A B : Prop} (e : b = false) (h : B) : if b = true then A else B := by
  subst e
  exact iteF h
theorem bl_t {p : Prop} [Decidable p] (h : p) : V.bl (decide p) = V.bl true := by rw [decide_eq_true h]
theorem bl_f {p : Prop} [Decidable p] (h : ¬ p) : V.bl (decide p) = V.bl false := by rw [decide_eq_false h]
theorem ndt {p : Prop} [Decidable p] (h : ¬ p) : (!decide p) = true := by rw [decide_eq_false h]; rfl
theorem ndf {p : Prop} [Decidable p] (h : p) : (!decide p) = false := by rw [decide_eq_true h]; rfl
theorem qb {Q : VK} {H : Hp} {b : Bool} (e : b = true) (q : Q (.bl true) H) : Q (.bl b) H := by
  subst e
  exact q
theorem qi {Q : VK} {H : Hp} {i j : Int} (e : i = j) (q : Q (.int j) H) : Q (.int i) H := by
  subst e
  exact q
theorem sz_lt {n : Nat} (h : n < 100000) : n < sizeLine := Nat.lt_of_lt_of_le h (by decide)
theorem sz_le {n : Nat} (h : n ≤ 100000) : n ≤ sizeLine := Nat.le_trans h (by decide)
theorem range_snoc {α : Type} (n : Nat) (f : Nat → α) : (List.range (n + 1)).map f = (List.range n).map f ++ [f n] := by
  rw [List.range_succ, List.map_append]
  rfl
theorem all2_map {α β : Type} {f : β → α} : ∀ {xs : List α} {as : List β}, All2 (fun v b => v = f b) xs as → xs = as.map f
  | [], [], _ => rfl
  | _ :: _, _ :: _, h => by rw [List.map_cons, ← h.1, ← all2_map h.2]
  | [], _ :: _, h => h.elim
  | _ :: _, [], h => h.elim
theorem take_snoc {α : Type} {as : List α} {i : Nat} {a : α} (h : as[i]? = some a) : as.take (i + 1) = as.take i ++ [a] := by
  rw [List.take_add_one, h]
  rfl
/-- a comprehension without a test: the i-th item is as[i], by R -/
theorem lcw {α : Type} {J : It} {n : Nat} {G : Hp → Prop} {Y : Nat → Hp → V → Hp → Prop} (w : Walk J n G Y) {R : Hp → V → α → Prop} (mono : ∀ H H' v a, TS H H' → R H v a → R H' v a) (as : List α) (hl : as.length = n)
    {k : Nat} {te : TE} {vs : List Nat} {σ : L2.St} {H1 : Hp} {D : Addr} {Qd : Hp → Prop} (hD : H1 D = none) (hn : n ≤ 90000) (hG : ∀ H', Same H1 H' → G H')
    (hs : ∀ i a x H H', as[i]? = some a → Same H1 H → Y i H x H' → ∀ Q : VK, (∀ y H4, Same H H4 → R H4 y a → Q y H4) → gName k x (wipe σ vs) H' fun σ2 H2 => wipe σ2 vs = wipe σ vs ∧ te σ2 H2 Q)
    (hd : ∀ H xs, Same H1 H → H D = some (.lst xs) → All2 (R H) xs as → Qd H) :
    ∃ W : Nat → Nat → Hp → Prop, (∃ m, W 0 m (upd H1 D (.lst []))) ∧ ∀ i m H, W i m H →
      (J.stop i H ∧ Qd H) ∨ (J.go i H ∧ ∃ Nx : Hp → Prop, (∀ H', Nx H' → ∃ m', m' < m ∧ W (i + 1) m' H') ∧ ∀ x H', J.yld i H x H' → gName k x (wipe σ vs) H' fun σ2 H2 => wipe σ2 vs = wipe σ vs ∧ tYes σ2 H2 fun b H3 =>
        if b = true then te σ2 H3 fun y H4 => ∃ acc, H4 D = some (.lst acc) ∧ acc.length < sizeLine ∧ Nx (upd H4 D (.lst (acc ++ [y]))) else Nx H3) := by
  subst hl
  refine lc_it w (fun i H => Same H1 H ∧ ∃ xs, H D = some (.lst xs) ∧ All2 (R H) xs (as.take i)) ⟨sm_new hD, [], upd_same, trivial⟩ (fun i H _ p => hG H p.1) (fun i x H H' hi p y => ?_) (fun H p => ?_)
  · obtain ⟨s1, xs, hx, ha⟩ := p
    have ea : as[i]? = some as[i] := List.getElem?_eq_getElem hi
    have z := hs i as[i] x H H' ea s1 y (fun y H4 => ∃ acc, H4 D = some (.lst acc) ∧ acc.length < sizeLine ∧ (fun i H => Same H1 H ∧ ∃ xs, H D = some (.lst xs) ∧ All2 (R H) xs (as.take i)) (i + 1) (upd H4 D (.lst (acc ++ [y])))) fun v H4 s2 r => ?_
    · refine ⟨z.1, ?_⟩
      dsimp only [tYes]
      rw [if_pos rfl]
      exact z.2
    have h4 : H4 D = some (.lst xs) := s2 _ _ hx
    refine ⟨xs, h4, sz_lt (by rw [ha.len, List.length_take]; omega), ?_⟩
    have t4 : TS H4 (upd H4 D (.lst (xs ++ [v]))) := TS.lst h4
    refine ⟨sm_mut (s1.trans s2) hD, xs ++ [v], upd_same, ?_⟩
    rw [take_snoc ea]
    exact (ha.mono fun a b q => mono _ _ _ _ ((ts_of s2).trans t4) q).snoc (mono _ _ _ _ t4 r)
  · obtain ⟨s1, xs, hx, ha⟩ := p
    rw [List.take_length] at ha
    exact hd H xs s1 hx ha
/-! ### lists that a loop of ours grows -/
/-- at p, which H0 does not know, stands a list of these -/
structure Grow {α : Type} (R : Hp → V → α → Prop) (H0 H : Hp) (p : Addr) (as : List α) : Prop where
  sm : Same H0 H
  np : H0 p = none
  ls : ∃ xs, H p = some (.lst xs) ∧ All2 (R H) xs as
theorem Grow.start {α : Type} {R : Hp → V → α → Prop} {H0 H : Hp} {p : Addr} (s : Same H0 H) (np : H p = none) : Grow R H0 (upd H p (.lst [])) p [] := by
  have n0 : H0 p = none := Same.free s np
  exact ⟨sm_mut s n0, n0, [], upd_same, trivial⟩
section
variable {α : Type} {R : Hp → V → α → Prop} {H0 H H1 : Hp} {p : Addr} {as bs : List α}
theorem Grow.keep (g : Grow R H0 H p as) (mono : ∀ H H' v a, TS H H' → R H v a → R H' v a) (s : Same H H1) : Grow R H0 H1 p as := by
  obtain ⟨xs, h1, h2⟩ := g.ls
  exact ⟨g.sm.trans s, g.np, xs, s _ _ h1, h2.mono fun _ _ q => mono _ _ _ _ (ts_of s) q⟩
theorem Grow.more (g : Grow R H0 H p as) (mono : ∀ H H' v a, TS H H' → R H v a → R H' v a) {xs ys : List V} (h1 : H p = some (.lst xs)) (h2 : All2 (R H) xs as) (h3 : All2 (R H) ys bs) : Grow R H0 (upd H p (.lst (xs ++ ys))) p (as ++ bs) := by
  have t : TS H (upd H p (.lst (xs ++ ys))) := TS.lst h1
  exact ⟨sm_mut g.sm g.np, g.np, _, upd_same, (h2.mono fun _ _ q => mono _ _ _ _ t q).app (h3.mono fun _ _ q => mono _ _ _ _ t q)⟩
/-- .. set at a place -/
theorem Grow.setAt (g : Grow R H0 H p as) (mono : ∀ H H' v a, TS H H' → R H v a → R H' v a) {xs : List V} {v : V} {a : α} (j : Nat) (h1 : H p = some (.lst xs)) (h2 : All2 (R H) xs as) (h3 : R H v a) : Grow R H0 (upd H p (.lst (xs.set j v))) p (as.set j a) := by
  have t : TS H (upd H p (.lst (xs.set j v))) := TS.lst h1
  exact ⟨sm_mut g.sm g.np, g.np, _, upd_same, (h2.mono fun _ _ q => mono _ _ _ _ t q).set j (mono _ _ _ _ t h3)⟩
end
theorem mFr : ∀ (H H' : Hp) (v : V) (a : Fs), TS H H' → IsFr H v a → IsFr H' v a := fun _ _ _ _ t h => h.ts t
theorem mPc : ∀ (H H' : Hp) (v : V) (a : Ps), TS H H' → IsPc H v a → IsPc H' v a := fun _ _ _ _ t h => h.ts t
theorem mDd : ∀ (H H' : Hp) (v : V) (a : Ds), TS H H' → IsDd H v a → IsDd H' v a := fun _ _ _ _ t h => h.ts t
theorem mTag : ∀ (H H' : Hp) (v : V) (a : Tag), TS H H' → IsTag H v a → IsTag H' v a := fun _ _ _ _ t h => h.ts t
theorem mEx {β : Type} {f : β → V} : ∀ (H H' : Hp) (v : V) (a : β), TS H H' → (fun (_ : Hp) v b => v = f b) H v a → (fun (_ : Hp) v b => v = f b) H' v a := fun _ _ _ _ _ h => h
theorem sum_len : ∀ ps : List Ps, (ps.map fun p => (p.m : Int)).sum = (len ps : Int)
  | [] => rfl
  | p :: ps => by
    have e : len (p :: ps) = p.m + len ps := by simp [len]
    rw [List.map_cons, List.sum_cons, sum_len ps, e]
    omega
theorem film_snoc {ps : List Ps} {i : Nat} {p : Ps} (h : ps[i]? = some p) : film (ps.take (i + 1)) = film (ps.take i) ++ p.film := by
  rw [take_snoc h, film_app, film_one]
theorem len_take (ps : List Ps) (i : Nat) : len (ps.take i) ≤ len ps := by
  have e : ps = ps.take i ++ ps.drop i := (List.take_append_drop i ps).symm
  rw [congrArg len e, len_app]
  omega
theorem at_lt {α : Type} {as : List α} {i : Nat} {a : α} (h : as[i]? = some a) : i < as.length := (List.getElem?_eq_some_iff.mp h).1
end K62
/-! K62, the walk, first part: rows. -/
namespace K62
open PySem PySem.Spec PyProof.Rows L2
section
variable {P : Program} {w : World} {K : PySem.W.Frag} {mg : Str → Option Value} {base : Heap}
def spIsNumber : Sp := fun vs H Q _ => ∃ i lo hi : Int, vs = [.int i, .int lo, .int hi] ∧ lo ≤ i ∧ i ≤ hi ∧ Q (.bl true) H
theorem ok_is_number (D : DefF K mg "is_number" s_is_number) (T : Tx mg) : C8.Cal P w K mg base 1 "is_number" spIsNumber [] := by
  refine D.cal sc_is_number (fun _ _ _ _ _ _ us hl => match us, hl with | [_, _, _], _ => rfl) (fun vs H Q E h => ?_) (fun f cdv A outer s H vs Q E hr h => ?_)
  · obtain ⟨_, _, _, rfl, _⟩ := h
    rfl
  · obtain ⟨i, lo, hi, rfl, h1, h2, q⟩ := h
    have nd := sc_is_number.nd
    refine ⟨_, (pss_one (ps_ret (pe_and (pe_callB call_isi (by rfl) T.b_isinstance bt_isinstance (pa_cons (pv 0) (pa_cons (pe_bltn (v := .ty "int") (by rfl) T.b_int bt_int rfl) pa_nil))) (pe_and (pe_not (pe_callB call_isi (by rfl) T.b_isinstance bt_isinstance (pa_cons (pv 0) (pa_cons (pe_bltn (v := .ty "bool") (by rfl) T.b_bool bt_bool rfl) pa_nil)))) (pe_one (pe_chain op_le op_le (pv 1) (pv 0) (pv 2))))))), ?_⟩
    refine ⟨_, rfl, _, _, _, _, true, rfl, .ty "int", ty_i, kit_ty kit_ii, true, rfl, iteT ?_⟩
    refine ⟨_, rfl, _, _, _, _, false, rfl, .ty "bool", ty_i, kit_ty kit_ib, false, rfl, true, rfl, iteT ?_⟩
    refine ⟨_, rfl, _, rfl, lo, i, rfl, rfl, _, rfl, ?_⟩
    exact iteB (decide_eq_true h1) ⟨_, rfl, _, _, rfl, rfl, qb (decide_eq_true h2) q⟩
def spIsName : Sp := fun vs H Q _ => ∃ z : Str, vs = [.str z] ∧ Nm z ∧ ∀ H', Same H H' → Q (.bl true) H'
theorem ok_is_name (D : DefF K mg "is_name" s_is_name) (T : Tx mg) : C8.Cal P w K mg base 1 "is_name" spIsName [] := by
  refine D.cal sc_is_name (fun _ _ _ _ _ _ us hl => match us, hl with | [_], _ => rfl) (fun vs H Q E h => ?_) (fun f cdv A outer s H vs Q E hr h => ?_)
  · obtain ⟨_, rfl, _⟩ := h
    rfl
  · obtain ⟨z, rfl, ⟨n1, n2, n3⟩, q⟩ := h
    have nd := sc_is_name.nd
    refine ⟨_, (pss_one (ps_ret (pe_and (pe_callB call_isi (by rfl) T.b_isinstance bt_isinstance (pa_cons (pv 0) (pa_cons (pe_bltn (v := .ty "str") (by rfl) T.b_str bt_str rfl) pa_nil))) (pe_and (pe_chain op_le op_le pe_int (pe_callB call_len_str (by rfl) T.b_len bt_len (pa_cons (pv 0) pa_nil)) pe_int) (pe_one (pe_callB (cr_all rfl) (by rfl) T.b_all bt_all (pa_cons (pe_lc (own := [("sign", 1)]) (g := gName 1) rfl nd (pi_str (pv 0)) (blkOk_by (N := N_is_name) (sc := defScope s_is_name) (by decide +kernel)) (fun _ _ _ _ _ => pg_name (i := 1) nd rfl (Or.inl rfl)) (fun _ _ _ _ _ => pts_nil) (fun _ _ _ _ _ => (pe_cmpR op_in_sign (pv 1) (C8.pe_gc (by rfl) T.c_LETTERS) (by with_unfolding_all rfl)))) pa_nil))))))), ?_⟩
    refine ⟨_, rfl, _, _, _, _, true, rfl, .ty "str", ty_s, kit_ty kit_ss, true, rfl, iteT ?_⟩
    refine ⟨_, rfl, _, rfl, sz_le (by omega), _, _, rfl, rfl, _, rfl, iteB (decide_eq_true (by omega)) ⟨_, _, rfl, rfl, true, ?_, iteT ?_⟩⟩
    · exact bl_t (by omega)
    refine ⟨_, rfl, _, rfl, fun D hD => ?_⟩
    have hsz : z.cps.size = z.length := rfl
    refine lcw walk_str (R := fun _ v b => v = V.bl b) mEx (List.replicate z.cps.size true) (by simp) hD (by omega) (fun _ _ => trivial) (fun i a x H0 H1 hi s0 y Q k => ?_) (fun H1 xs s1 h1 ha => ?_)
    · obtain ⟨rfl, c, hc, rfl⟩ := y
      refine ⟨rfl, _, rfl, c, lettersS, rfl, rfl, k _ _ (Same.refl _) ?_⟩
      have hm : c ∈ z.cps.toList := by
        rw [Array.mem_toList_iff]
        exact Array.mem_of_getElem? hc
      have ha : a = true := (List.mem_replicate.mp (List.mem_of_getElem? hi)).2
      subst ha
      exact bl_t (n3 c hm)
    · have e : xs = (List.replicate z.cps.size true).map V.bl := all2_map (f := V.bl) ha
      refine ⟨D, _, rfl, sqL (e ▸ h1), ?_⟩
      exact qb (by simp) (q _ s1)
def spIsPiece : Sp := fun vs H Q _ => ∃ (v : V) (p : Ps), vs = [v] ∧ IsPc H v p ∧ VPx p ∧ ∀ H', Same H H' → Q (.bl true) H'
theorem ok_is_piece (D : DefF K mg "is_piece" s_is_piece) (T : Tx mg) (c_is_number : C8.Cal P w K mg base 1 "is_number" spIsNumber []) (c_is_name : C8.Cal P w K mg base 1 "is_name" spIsName []) : C8.Cal P w K mg base 2 "is_piece" spIsPiece [] := by
  refine D.cal sc_is_piece (fun _ _ _ _ _ _ us hl => match us, hl with | [_], _ => rfl) (fun vs H Q E h => ?_) (fun f cdv A outer s H vs Q E hr h => ?_)
  · obtain ⟨_, _, rfl, _⟩ := h
    rfl
  · obtain ⟨_, p, rfl, ⟨a, rfl, hp⟩, v, q⟩ := h
    have nd := sc_is_piece.nd
    have v1 := v.f0
    have v2 := v.f1
    have v3 := v.s0
    have v4 := v.s1
    have v5 := v.m0
    have v6 := v.m1
    refine ⟨_, (pss_cons (ps_if (PW.pt (pw_or (pt_not (pt_val (pe_callB call_isi (by rfl) T.b_isinstance bt_isinstance (pa_cons (pv 0) (pa_cons (pe_bltn (v := .ty "tuple") (by rfl) T.b_tuple bt_tuple rfl) pa_nil))))) (pw_or1 (pt_cmpR op_ne (pe_callB call_len_seq (by rfl) T.b_len bt_len (pa_cons (pv 0) pa_nil)) pe_int (nomark _))))) (pss_one (ps_ret pe_bl)) pss_nil)
      (pss_cons (ps_asg (pv 0) (pg_tup rfl (pgs_cons (pg_name (i := 1) nd rfl (Or.inl rfl)) (pgs_cons (pg_name (i := 2) nd rfl (Or.inl rfl)) (pgs_cons (pg_name (i := 3) nd rfl (Or.inl rfl)) (pgs_cons (pg_name (i := 4) nd rfl (Or.inl rfl)) pgs_nil))))))
      (pss_cons (ps_if (PW.pt (pw_or (pt_not (pt_val (C8.pe_c c_is_number hr (by decide) (by rfl) (pa_cons (pv 2) (pa_cons pe_int (pa_cons (C8.pe_gc (by rfl) T.c_MOST_NUMBER) pa_nil)))))) (pw_or (pt_not (pt_val (C8.pe_c c_is_number hr (by decide) (by rfl) (pa_cons (pv 3) (pa_cons (pe_un un_neg pe_int) (pa_cons pe_int pa_nil)))))) (pw_or1 (pt_not (pt_val (C8.pe_c c_is_number hr (by decide) (by rfl) (pa_cons (pv 4) (pa_cons pe_int (pa_cons (C8.pe_gc (by rfl) T.c_MOST_FRAMES) pa_nil)))))))))) (pss_one (ps_ret pe_bl)) pss_nil)
      (pss_cons (ps_if (pt_cmpR op_eq (pv 1) pe_str (nomark _)) (pss_one (ps_ret (pe_and (pe_cmpR op_eq (pv 2) pe_int (nomark _)) (pe_one (pe_cmpR op_eq (pv 3) pe_int (nomark _)))))) pss_nil)
      (pss_one (ps_ret (pe_and (C8.pe_c c_is_name hr (by decide) (by rfl) (pa_cons (pv 1) pa_nil)) (pe_one (pe_chain op_le op_le pe_int (pe_op op_add (pv 2) (pe_op op_mul (pv 3) (pe_op op_sub (pv 4) pe_int))) (C8.pe_gc (by rfl) T.c_MOST_NUMBER)))))))))), ?_⟩
    -- isinstance, len
    refine ⟨_, rfl, _, _, _, _, true, rfl, .ty "tuple", ty_t hp, kit_ty kit_tt, true, rfl, iteC rfl ?_⟩
    refine ⟨_, rfl, _, _, rfl, .inr (sqT hp), rfl, _, rfl, iteC (ndf rfl) ?_⟩
    -- name, first, step, many = thing
    refine ⟨_, rfl, a, _, rfl, sqT hp, rfl, _, _, rfl, _, _, rfl, _, _, rfl, _, _, rfl, rfl, ?_⟩
    -- the numbers
    refine ⟨_, rfl, _, _, _, rfl, v1, v2, true, rfl, iteC rfl ?_⟩
    refine ⟨_, rfl, _, rfl, _, _, _, rfl, v3, v4, true, rfl, iteC rfl ?_⟩
    refine ⟨_, rfl, _, _, _, rfl, (by omega), (by omega), true, rfl, iteC rfl ?_⟩
    rcases v.nm with ⟨e1, e2, e3⟩ | ⟨e1, e2, e3⟩
    · refine ⟨_, rfl, rfl, _, rfl, iteB (decide_eq_true (by rw [e1])) ?_⟩
      refine ⟨_, rfl, rfl, _, rfl, iteB (decide_eq_true (by rw [e2])) ?_⟩
      exact ⟨_, rfl, rfl, qb (decide_eq_true (by rw [e3])) (q _ (Same.refl _))⟩
    · refine ⟨_, rfl, rfl, _, rfl, iteC (decide_eq_false fun h => ?_) ?_⟩
      · have h2 : p.n = "" := by injection h
        rw [h2] at e1
        exact nm_blk e1
      refine ⟨_, rfl, _, rfl, e1, fun H1 s1 => ⟨true, rfl, iteT ?_⟩⟩
      refine ⟨_, rfl, _, rfl, _, rfl, _, _, rfl, rfl, _, _, rfl, rfl, .inl ⟨by omega, by omega⟩, _, _, rfl, rfl, _, _, rfl, rfl, _, rfl, iteB (decide_eq_true e2) ?_⟩
      exact ⟨_, _, rfl, rfl, qb (decide_eq_true e3) (q _ s1)⟩
def spLengthOf : Sp := fun vs H Q _ => ∃ (v : V) (ps : List Ps), vs = [v] ∧ IsRow H v ps ∧ ps.length ≤ 90000 ∧ ∀ H', Same H H' → Q (.int (len ps : Int)) H'
theorem ok_length_of (D : DefF K mg "length_of" s_length_of) (T : Tx mg) : C8.Cal P w K mg base 1 "length_of" spLengthOf [] := by
  refine D.cal sc_length_of (fun _ _ _ _ _ _ us hl => match us, hl with | [_], _ => rfl) (fun vs H Q E h => ?_) (fun f cdv A outer s H vs Q E hr h => ?_)
  · obtain ⟨_, _, rfl, _⟩ := h
    rfl
  · obtain ⟨_, ps, rfl, ⟨a, xs, rfl, hp, ha⟩, hl, q⟩ := h
    have nd := sc_length_of.nd
    refine ⟨_, (pss_one (ps_ret (pe_callB (cr_sum rfl) (by rfl) T.b_sum bt_sum (pa_cons (pe_lc (own := [("piece", 1)]) (g := gName 1) rfl nd (pi_tup (pv 0)) (blkOk_by (N := N_length_of) (sc := defScope s_length_of) (by decide +kernel)) (fun _ _ _ _ _ => pg_name (i := 1) nd rfl (Or.inl rfl)) (fun _ _ _ _ _ => pts_nil) (fun _ _ _ _ _ => (pe_ix (r := rIxT K) ix_tup (pv 1) pe_int (fun _ _ => rfl)))) pa_nil)))), ?_⟩
    refine ⟨_, rfl, a, rfl, ⟨xs, sqT hp⟩, fun D hD => ?_⟩
    refine lcw (walk_tup (xs := xs)) (R := fun _ v b => v = V.int b) mEx (ps.map fun p => (p.m : Int)) (by rw [List.length_map, ha.len]) hD (by rw [ha.len]; exact hl) (fun H' s' => sqT (s' _ _ hp)) (fun i b x H0 H1 hi s0 y Q k => ?_) (fun H1 ys s1 h1 h2 => ?_)
    · obtain ⟨rfl, hx⟩ := y
      obtain ⟨p, ep, ⟨c, rfl, hc⟩⟩ := ha.get hx
      rw [List.getElem?_map, ep] at hi
      cases hi
      exact ⟨rfl, _, rfl, c, _, _, _, rfl, rfl, sqT (s0 _ _ hc), atI_nat (j := 3) rfl, k _ _ (Same.refl _) rfl⟩
    · have e := all2_map (f := V.int) h2
      refine ⟨D, _, rfl, sqL (e ▸ h1), qi (sum_len ps) (q _ s1)⟩
def spIsRow : Sp := fun vs H Q _ => ∃ (v : V) (ps : List Ps), vs = [v] ∧ IsRow H v ps ∧ VRw ps ∧ ps.length ≤ 90000 ∧ ∀ H', Same H H' → Q (.bl true) H'
theorem ok_is_row (D : DefF K mg "is_row" s_is_row) (T : Tx mg) (c_is_piece : C8.Cal P w K mg base 2 "is_piece" spIsPiece []) (c_length_of : C8.Cal P w K mg base 1 "length_of" spLengthOf []) : C8.Cal P w K mg base 3 "is_row" spIsRow [] := by
  refine D.cal sc_is_row (fun _ _ _ _ _ _ us hl => match us, hl with | [_], _ => rfl) (fun vs H Q E h => ?_) (fun f cdv A outer s H vs Q E hr h => ?_)
  · obtain ⟨_, _, rfl, _⟩ := h
    rfl
  · obtain ⟨_, ps, rfl, ⟨a, xs, rfl, hp, ha⟩, vr, hl, q⟩ := h
    have nd := sc_is_row.nd
    refine ⟨_, (pss_cons (ps_if (PW.pt (pw_or (pt_not (pt_val (pe_callB call_isi (by rfl) T.b_isinstance bt_isinstance (pa_cons (pv 0) (pa_cons (pe_bltn (v := .ty "tuple") (by rfl) T.b_tuple bt_tuple rfl) pa_nil))))) (pw_or1 (pt_not (pt_val (pe_callB (cr_all rfl) (by rfl) T.b_all bt_all (pa_cons (pe_lc (own := [("piece", 1)]) (g := gName 1) rfl nd (pi_tup (pv 0)) (blkOk_by (N := N_is_row) (sc := defScope s_is_row) (by decide +kernel)) (fun _ _ _ _ _ => pg_name (i := 1) nd rfl (Or.inl rfl)) (fun _ _ _ _ _ => pts_nil) (fun _ _ _ _ _ => (C8.pe_c c_is_piece hr (by decide) (by rfl) (pa_cons (pv 1) pa_nil)))) pa_nil))))))) (pss_one (ps_ret pe_bl)) pss_nil)
      (pss_one (ps_ret (pe_cmpR op_le (C8.pe_c c_length_of hr (by decide) (by rfl) (pa_cons (pv 0) pa_nil)) (C8.pe_gc (by rfl) T.c_MOST_FRAMES) (nomark _))))), ?_⟩
    refine ⟨_, rfl, _, _, _, _, true, rfl, .ty "tuple", ty_t hp, kit_ty kit_tt, true, rfl, iteC rfl ?_⟩
    refine ⟨_, rfl, a, rfl, ⟨xs, sqT hp⟩, fun D hD => ?_⟩
    refine lcw (walk_tup (xs := xs)) (R := fun _ v b => v = V.bl b) mEx (List.replicate ps.length true) (by rw [List.length_replicate, ha.len]) hD (by rw [ha.len]; exact hl) (fun H' s' => sqT (s' _ _ hp)) (fun i b x H0 H1 hi s0 y Q k => ?_) (fun H1 ys s1 h1 h2 => ?_)
    · obtain ⟨rfl, hx⟩ := y
      obtain ⟨p, ep, hc⟩ := ha.get hx
      have hb : b = true := (List.mem_replicate.mp (List.mem_of_getElem? hi)).2
      subst hb
      exact ⟨rfl, _, rfl, x, p, rfl, hc.ts (ts_of s0), vr.1 p (List.mem_of_getElem? ep), fun H2 s2 => k _ _ s2 rfl⟩
    · have e := all2_map (f := V.bl) h2
      refine ⟨D, _, rfl, sqL (e ▸ h1), _, rfl, iteC (by simp) ?_⟩
      refine ⟨_, rfl, _, ps, rfl, ⟨a, xs, rfl, s1 _ _ hp, ha.mono fun _ _ z => z.ts (ts_of s1)⟩, hl, fun H2 s2 => ⟨_, _, rfl, rfl, qb (decide_eq_true ?_) (q _ (s1.trans s2))⟩⟩
      have := vr.2
      omega
def spChecked : Sp := fun vs H Q _ => ∃ (v : V) (ps : List Ps), vs = [v] ∧ IsRow H v ps ∧ VRw ps ∧ ps.length ≤ 90000 ∧ ∀ H', Same H H' → Q v H'
theorem ok_checked (D : DefF K mg "checked" s_checked) (c_is_row : C8.Cal P w K mg base 3 "is_row" spIsRow []) : C8.Cal P w K mg base 4 "checked" spChecked [] := by
  refine D.cal sc_checked (fun _ _ _ _ _ _ us hl => match us, hl with | [_], _ => rfl) (fun vs H Q E h => ?_) (fun f cdv A outer s H vs Q E hr h => ?_)
  · obtain ⟨_, _, rfl, _⟩ := h
    rfl
  · obtain ⟨v, ps, rfl, hp, vr, hl, q⟩ := h
    have nd := sc_checked.nd
    refine ⟨_, (pss_cons (ps_if (pt_not (pt_val (C8.pe_c c_is_row hr (by decide) (by rfl) (pa_cons (pv 0) pa_nil)))) (pss_one ps_never) pss_nil)
      (pss_one (ps_ret (pv 0)))), ?_⟩
    exact ⟨_, rfl, v, ps, rfl, hp, vr, hl, fun H1 s1 => ⟨true, rfl, iteC rfl ⟨_, rfl, q _ s1⟩⟩⟩
def spFramesOf : Sp := fun vs H Q _ => ∃ (v : V) (p : Ps), vs = [v] ∧ IsPc H v p ∧ VPx p ∧ ∀ H' v', Same H H' → IsFilm H' v' p.film → Q v' H'
theorem ok_frames_of (D : DefF K mg "frames_of" s_frames_of) (T : Tx mg) : C8.Cal P w K mg base 1 "frames_of" spFramesOf [] := by
  refine D.cal sc_frames_of (fun _ _ _ _ _ _ us hl => match us, hl with | [_], _ => rfl) (fun vs H Q E h => ?_) (fun f cdv A outer s H vs Q E hr h => ?_)
  · obtain ⟨_, _, rfl, _⟩ := h
    rfl
  · obtain ⟨_, p, rfl, ⟨a, rfl, hp⟩, v, q⟩ := h
    have nd := sc_frames_of.nd
    have v3 := v.s0
    have v4 := v.s1
    have v6 := v.m1
    refine ⟨_, (pss_cons (ps_asg (pv 0) (pg_tup rfl (pgs_cons (pg_name (i := 1) nd rfl (Or.inr rfl)) (pgs_cons (pg_name (i := 2) nd rfl (Or.inr rfl)) (pgs_cons (pg_name (i := 3) nd rfl (Or.inr rfl)) (pgs_cons (pg_name (i := 4) nd rfl (Or.inl rfl)) pgs_nil))))))
      (pss_one (ps_ret (pe_lc (own := [("k", 5)]) (g := gName 5) rfl nd (pi_range1 (by rfl) T.b_range (pa_cons (pv 4) pa_nil)) (blkOk_by (N := N_frames_of) (sc := defScope s_frames_of) (by decide +kernel)) (fun _ _ _ _ _ => pg_name (i := 5) nd rfl (Or.inl rfl)) (fun _ _ _ _ _ => pts_nil) (fun _ _ _ _ _ => (pe_tup (pa_cons (pv 1) (pa_cons (pe_op op_add (pv 2) (pe_op op_mul (pv 3) (pv 5))) pa_nil)))))))), ?_⟩
    refine ⟨_, rfl, a, _, rfl, sqT hp, rfl, _, _, rfl, _, _, rfl, _, _, rfl, _, _, rfl, rfl, ?_⟩
    refine ⟨_, rfl, _, rfl, by omega, by omega, fun D hD => ?_⟩
    refine lcw (walk_range (lo := 0) (n := (p.m : Int).toNat)) (R := IsFr) mFr p.film (by rw [Pc.film_len]; omega) hD (by omega) (fun H' s' => trivial) (fun i b x H0 H1 hi s0 y Q k => ?_) (fun H1 ys s1 h1 h2 => ?_)
    · obtain ⟨rfl, rfl⟩ := y
      have hi2 : i < p.m := by
        have := at_lt hi
        rw [Pc.film_len] at this
        exact this
      rw [p.film_at hi2] at hi
      cases hi
      refine ⟨rfl, _, rfl, _, rfl, _, rfl, _, rfl, _, _, rfl, rfl,   .inl ⟨by omega, by omega⟩, _, _, rfl, rfl, (by show 2 ≤ sizeLine; decide), fun t ht => ?_⟩
      refine k _ _ (sm_new ht) ⟨t, rfl, ?_⟩
      rw [upd_same]
      simp
    · exact q _ _ s1 ⟨D, ys, rfl, h1, h2⟩
def spFilmOf : Sp := fun vs H Q _ => ∃ (v : V) (ps : List Ps), vs = [v] ∧ IsRow H v ps ∧ VRw ps ∧ ∀ H' v', Same H H' → IsFilm H' v' (film ps) → Q v' H'
theorem ok_film_of (D : DefF K mg "film_of" s_film_of) (c_frames_of : C8.Cal P w K mg base 1 "frames_of" spFramesOf []) : C8.Cal P w K mg base 2 "film_of" spFilmOf [] := by
  refine D.cal sc_film_of (fun _ _ _ _ _ _ us hl => match us, hl with | [_], _ => rfl) (fun vs H Q E h => ?_) (fun f cdv A outer s H vs Q E hr h => ?_)
  · obtain ⟨_, _, rfl, _⟩ := h
    rfl
  · obtain ⟨_, ps, rfl, ⟨a, xs, rfl, hp, ha⟩, vr, q⟩ := h
    have nd := sc_film_of.nd
    refine ⟨_, (pss_cons (ps_set (i := 1) nd rfl (Or.inl rfl) (pe_lst pa_nil))
      (pss_cons (ps_for PassesOwn.never rfl (pi_tup (pv 0)) (pg_name (i := 2) nd rfl (Or.inl rfl)) (pss_one (ps_expr (pe_bm PySem.F.plainAttrs_list PySem.F.slot_list_extend PySem.F.type_list_extend mt_extend (pv 1) (pa_cons (C8.pe_c c_frames_of hr (by decide) (by rfl) (pa_cons (pv 2) pa_nil)) pa_nil)))))
      (pss_one (ps_ret (pv 1))))), ?_⟩
    refine ⟨Nat.zero_le _, fun l hl => ?_⟩
    refine ⟨_, rfl, a, rfl, ⟨xs, sqT (sm_new hl _ _ hp)⟩, for_it (walk_tup (xs := xs)) (fun i σ H' => ∃ z, σ = [some (.ref a), some (.ref l), z] ∧ Grow IsFr H H' l (film (ps.take i))) ⟨none, rfl, Grow.start (Same.refl H) hl⟩ ?_ ?_ ?_⟩
    · rintro i σ H' _ ⟨z, rfl, g⟩
      exact sqT (g.sm _ _ hp)
    · rintro i x σ H1 H2 hi ⟨z, rfl, g⟩ ⟨rfl, hx⟩
      obtain ⟨p, ep, hc⟩ := ha.get hx
      obtain ⟨ys, h1, h2⟩ := g.ls
      refine ⟨_, rfl, .inl ⟨rfl, _, sqL h1⟩, _, rfl, x, p, rfl, hc.ts (ts_of g.sm), vr.1 p (List.mem_of_getElem? ep), fun H3 v3 s3 f3 => ?_⟩
      have g3 := g.keep mFr s3
      obtain ⟨b, zs, rfl, h3, h4⟩ := f3
      obtain ⟨ys', h5, h6⟩ := g3.ls
      refine ⟨l, b, ys', zs, rfl, rfl, h5, h3, sz_le ?_, _, rfl, ?_⟩
      · rw [h6.len, h4.len, film_len, Pc.film_len]
        have := len_take ps i
        have := vr.2
        have := (vr.1 p (List.mem_of_getElem? ep)).m1
        omega
      · rw [film_snoc ep]
        exact g3.more mFr h5 h6 h4
    · rintro σ H' ⟨z, rfl, g⟩
      obtain ⟨ys, h1, h2⟩ := g.ls
      refine ⟨_, rfl, q _ _ g.sm ⟨l, ys, rfl, h1, ?_⟩⟩
      rw [ha.len, List.take_length] at h2
      exact h2
def spFilm : Sp := fun vs H Q _ => ∃ (v : V) (ps : List Ps), vs = [v] ∧ IsRow H v ps ∧ VRw ps ∧ ps.length ≤ 90000 ∧ ∀ H' v', Same H H' → IsFilm H' v' (film ps) → Q v' H'
theorem ok_film (D : DefF K mg "film" s_film) (c_film_of : C8.Cal P w K mg base 2 "film_of" spFilmOf []) (c_checked : C8.Cal P w K mg base 4 "checked" spChecked []) : C8.Cal P w K mg base 5 "film" spFilm [] := by
  refine D.cal sc_film (fun _ _ _ _ _ _ us hl => match us, hl with | [_], _ => rfl) (fun vs H Q E h => ?_) (fun f cdv A outer s H vs Q E hr h => ?_)
  · obtain ⟨_, _, rfl, _⟩ := h
    rfl
  · obtain ⟨v, ps, rfl, hp, vr, hl, q⟩ := h
    have nd := sc_film.nd
    refine ⟨_, (pss_one (ps_ret (C8.pe_c c_film_of hr (by decide) (by rfl) (pa_cons (C8.pe_c c_checked hr (by decide) (by rfl) (pa_cons (pv 0) pa_nil)) pa_nil)))), ?_⟩
    exact ⟨_, rfl, v, ps, rfl, hp, vr, hl, fun H1 s1 => ⟨v, ps, rfl, hp.sm s1, vr, fun H2 v2 s2 f2 => q _ _ (s1.trans s2) f2⟩⟩
end
end K62
/-! K62, the walk, second part: least rows; data compared. -/
namespace K62
open PySem PySem.Spec PyProof.Rows L2
/-! ### data compared -/
section
variable {α : Type} [DecidableEq α] {f : α → PyData}
theorem eqvAll_map (hf : ∀ a b, PyData.eqv (f a) (f b) = decide (a = b)) : ∀ xs ys : List α, PyData.eqvAll (xs.map f) (ys.map f) = decide (xs = ys)
  | [], [] => by simp [PyData.eqvAll]
  | [], _ :: _ => by simp [PyData.eqvAll]
  | _ :: _, [] => by simp [PyData.eqvAll]
  | x :: xs, y :: ys => by
    have ih := eqvAll_map hf xs ys
    simp only [List.map_cons, PyData.eqvAll, hf, ih]
    by_cases h1 : x = y <;> by_cases h2 : xs = ys <;> simp [h1, h2]
theorem lay_map : ∀ xs : List α, (∀ a ∈ xs, (f a).canLay0 = true) → PyData.canLayAll0 (xs.map f) = true
  | [], _ => by simp [PyData.canLayAll0]
  | x :: xs, hf => by simp [PyData.canLayAll0, hf x List.mem_cons_self, lay_map xs fun a h => hf a (List.mem_cons_of_mem _ h)]
theorem depth_map {n : Nat} (hf : ∀ a, (f a).depth ≤ n) : ∀ xs : List α, PyData.depthAll (xs.map f) ≤ n
  | [] => by simp [PyData.depthAll]
  | x :: xs => by
    have h1 := depth_map hf xs
    have h2 := hf x
    simp only [List.map_cons, PyData.depthAll]
    omega
theorem shaped_of {d : PyData} (h1 : d.canLay0 = true) (h2 : d.depth ≤ 64) : SeqAt.shaped d = true := by
  show (d.canLay0 && decide (d.depth ≤ 64)) = true
  rw [h1, decide_eq_true h2]
  rfl
theorem shL {xs : List α} (h1 : ∀ a ∈ xs, (f a).canLay0 = true) {n : Nat} (h2 : ∀ a, (f a).depth ≤ n) (hn : n ≤ 60) : SeqAt.shaped (.list (xs.map f)) = true :=
  shaped_of (by simp only [PyData.canLay0]; exact lay_map xs h1) (by have := depth_map h2 xs; simp only [PyData.depth]; omega)
theorem shT {xs : List α} (h1 : ∀ a ∈ xs, (f a).canLay0 = true) {n : Nat} (h2 : ∀ a, (f a).depth ≤ n) (hn : n ≤ 60) : SeqAt.shaped (.tuple (xs.map f)) = true :=
  shaped_of (by simp only [PyData.canLay0]; exact lay_map xs h1) (by have := depth_map h2 xs; simp only [PyData.depth]; omega)
theorem dpAll {K : PySem.W.Frag} {H : Hp} {R : V → α → Prop} (h : ∀ v a, R v a → Dp K H v (f a)) : ∀ {xs : List V} {as : List α}, All2 R xs as → DpAll K H xs (as.map f)
  | [], [], _ => .nil
  | _ :: _, _ :: _, q => .cons (h _ _ q.1) (dpAll h q.2)
  | [], _ :: _, q => q.elim
  | _ :: _, [], q => q.elim
end
def frD (x : Fs) : PyData := .tuple [.str x.1, .int x.2]
def pcD (p : Ps) : PyData := .tuple [.str p.n, .int p.f, .int p.s, .int (p.m : Int)]
def tgD (x : Tag) : PyData := .tuple [.int x.w, .int x.i, .int x.k]
theorem beq_dec {α : Type} [DecidableEq α] (a b : α) : (a == b) = decide (a = b) := rfl
theorem frD_eqv (a b : Fs) : PyData.eqv (frD a) (frD b) = decide (a = b) := by
  obtain ⟨a1, a2⟩ := a
  obtain ⟨b1, b2⟩ := b
  simp only [frD, PyData.eqv, PyData.eqvAll, beq_dec, Bool.and_true, Prod.mk.injEq]
  by_cases h1 : a1 = b1 <;> by_cases h2 : a2 = b2 <;> simp [h1, h2]
theorem pcD_eqv (a b : Ps) : PyData.eqv (pcD a) (pcD b) = decide (a = b) := by
  obtain ⟨a1, a2, a3, a4⟩ := a
  obtain ⟨b1, b2, b3, b4⟩ := b
  simp only [pcD, PyData.eqv, PyData.eqvAll, beq_dec, Bool.and_true, Pc.mk.injEq, Int.ofNat_inj]
  by_cases h1 : a1 = b1 <;> by_cases h2 : a2 = b2 <;> by_cases h3 : a3 = b3 <;> by_cases h4 : a4 = b4 <;> simp [h1, h2, h3, h4]
theorem tgD_eqv (a b : Tag) : PyData.eqv (tgD a) (tgD b) = decide (a = b) := by
  obtain ⟨a1, a2, a3⟩ := a
  obtain ⟨b1, b2, b3⟩ := b
  simp only [tgD, PyData.eqv, PyData.eqvAll, beq_dec, Bool.and_true, Tag.mk.injEq]
  by_cases h1 : a1 = b1 <;> by_cases h2 : a2 = b2 <;> by_cases h3 : a3 = b3 <;> simp [h1, h2, h3]
abbrev VF (x : Fs) : Prop := VFr Nm ("" : Str) x
theorem letters_ok : ∀ c ∈ lettersS.cps.toList, c < 0x110000 := by decide +kernel
theorem blk_ok : PyData.strOk ("" : Str) = true := by decide +kernel
theorem nm_ok {z : Str} (h : Nm z) : PyData.strOk z = true := by
  unfold PyData.strOk
  rw [← Array.all_toList, List.all_eq_true]
  exact fun c hc => decide_eq_true (letters_ok c (h.2.2 c hc))
theorem VFr.ok {x : Fs} (h : VF x) : PyData.strOk x.1 = true := by
  rcases h with ⟨e, _⟩ | ⟨e, _⟩
  · rw [e]
    exact blk_ok
  · exact nm_ok e
theorem VPc.ok {p : Ps} (h : VPx p) : PyData.strOk p.n = true := by
  rcases h.nm with ⟨e, _⟩ | ⟨e, _⟩
  · rw [e]
    exact blk_ok
  · exact nm_ok e
theorem frD_lay (a : Fs) (h : VF a) : (frD a).canLay0 = true := by simp [frD, PyData.canLay0, PyData.canLayAll0, VFr.ok h]
theorem pcD_lay (a : Ps) (h : VPx a) : (pcD a).canLay0 = true := by simp [pcD, PyData.canLay0, PyData.canLayAll0, VPc.ok h]
theorem tgD_lay (a : Tag) : (tgD a).canLay0 = true := by simp [tgD, PyData.canLay0, PyData.canLayAll0]
theorem frD_dep (a : Fs) : (frD a).depth ≤ 5 := by simp [frD, PyData.depth, PyData.depthAll]
theorem pcD_dep (a : Ps) : (pcD a).depth ≤ 5 := by simp [pcD, PyData.depth, PyData.depthAll]
theorem tgD_dep (a : Tag) : (tgD a).depth ≤ 5 := by simp [tgD, PyData.depth, PyData.depthAll]
theorem frD_sh (a : Fs) (h : VF a) : SeqAt.shaped (frD a) = true := shaped_of (frD_lay a h) (Nat.le_trans (frD_dep a) (by decide))
theorem tgD_sh (a : Tag) : SeqAt.shaped (tgD a) = true := shaped_of (tgD_lay a) (Nat.le_trans (tgD_dep a) (by decide))
section
variable {K : PySem.W.Frag} {H : Hp} {v : V}
theorem IsFr.dp {x : Fs} (h : IsFr H v x) : Dp K H v (frD x) := by
  obtain ⟨a, rfl, h⟩ := h
  exact .tup (sqT h) (.cons (.str _) (.cons (.int _) .nil))
theorem IsPc.dp {x : Ps} (h : IsPc H v x) : Dp K H v (pcD x) := by
  obtain ⟨a, rfl, h⟩ := h
  exact .tup (sqT h) (.cons (.str _) (.cons (.int _) (.cons (.int _) (.cons (.int _) .nil))))
theorem IsTag.dp {x : Tag} (h : IsTag H v x) : Dp K H v (tgD x) := by
  obtain ⟨a, rfl, h⟩ := h
  exact .tup (sqT h) (.cons (.int _) (.cons (.int _) (.cons (.int _) .nil)))
theorem IsFilm.dp {fs : List Fs} (h : IsFilm H v fs) : Dp K H v (.list (fs.map frD)) := by
  obtain ⟨a, xs, rfl, h, q⟩ := h
  exact .lst (sqL h) (dpAll (fun _ _ z => z.dp) q)
theorem IsRow.dp {ps : List Ps} (h : IsRow H v ps) : Dp K H v (.tuple (ps.map pcD)) := by
  obtain ⟨a, xs, rfl, h, q⟩ := h
  exact .tup (sqT h) (dpAll (fun _ _ z => z.dp) q)
theorem IsTags.dp {ts : List Tag} (h : IsTags H v ts) : Dp K H v (.list (ts.map tgD)) := by
  obtain ⟨a, xs, rfl, h, q⟩ := h
  exact .lst (sqL h) (dpAll (fun _ _ z => z.dp) q)
end
theorem film_sh {fs : List Fs} (h : ∀ x ∈ fs, VF x) : SeqAt.shaped (.list (fs.map frD)) = true := shL (fun a ha => frD_lay a (h a ha)) frD_dep (by decide)
theorem row_sh {ps : List Ps} (h : ∀ p ∈ ps, VPx p) : SeqAt.shaped (.tuple (ps.map pcD)) = true := shT (fun a ha => pcD_lay a (h a ha)) pcD_dep (by decide)
theorem tags_sh (ts : List Tag) : SeqAt.shaped (.list (ts.map tgD)) = true := shL (fun a _ => tgD_lay a) tgD_dep (by decide)
theorem film_eqv (a b : List Fs) : PyData.eqv (.list (a.map frD)) (.list (b.map frD)) = decide (a = b) := by
  simp only [PyData.eqv]
  exact eqvAll_map frD_eqv a b
theorem row_eqv (a b : List Ps) : PyData.eqv (.tuple (a.map pcD)) (.tuple (b.map pcD)) = decide (a = b) := by
  simp only [PyData.eqv]
  exact eqvAll_map pcD_eqv a b
theorem tags_eqv (a b : List Tag) : PyData.eqv (.list (a.map tgD)) (.list (b.map tgD)) = decide (a = b) := by
  simp only [PyData.eqv]
  exact eqvAll_map tgD_eqv a b

section
variable {P : Program} {w : World} {K : PySem.W.Frag} {mg : Str → Option Value} {base : Heap}
def spRunFrom : Sp := fun vs H Q _ => ∃ (v : V) (i : Nat) (fs : List Fs), vs = [v, .int (i : Int)] ∧ IsFilm H v fs ∧ i < fs.length ∧ (∀ x ∈ fs, VF x) ∧ ∀ H' t (q : Ps), Same H H' → Run fs i q → H' t = some (.tup [.int q.s, .int (q.m : Int)]) → Q (.ref t) H'
theorem ok_run_from (D : DefF K mg "run_from" s_run_from) (T : Tx mg) : C8.Cal P w K mg base 1 "run_from" spRunFrom [] := by
  refine D.cal sc_run_from (fun _ _ _ _ _ _ us hl => match us, hl with | [_, _], _ => rfl) (fun vs H Q E h => ?_) (fun f cdv A outer s H vs Q E hr h => ?_)
  · obtain ⟨_, _, _, rfl, _⟩ := h
    rfl
  · obtain ⟨_, i, fs, rfl, ⟨a, xs, rfl, hp, ha⟩, hi, vf, q⟩ := h
    have nd := sc_run_from.nd
    have hx : fs[i]? = some fs[i] := List.getElem?_eq_getElem hi
    generalize fs[i] = x at hx
    obtain ⟨_, e0, ⟨c0, rfl, h0⟩⟩ := ha.get' hx
    have hlen := ha.len
    have one_ : Run fs i (one x) → ∀ t, H t = none → Q (.ref t) (upd H t (.tup [.int 0, .int 1])) := fun r t ht => q _ t (one x) (sm_new ht) r upd_same
    refine ⟨_, (pss_cons (ps_if (PW.pt (pw_or (pt_cmpR op_eq (pe_op op_add (pv 1) pe_int) (pe_callB call_len_seq (by rfl) T.b_len bt_len (pa_cons (pv 0) pa_nil)) (nomark _)) (pw_or1 (pt_cmpR op_ne (pe_ix ix_tup (pe_ix ix_list (pv 0) (pv 1) (fun _ _ => rfl)) pe_int (fun _ _ => rfl)) (pe_ix ix_tup (pe_ix ix_list (pv 0) (pe_op op_add (pv 1) pe_int) (fun _ _ => rfl)) pe_int (fun _ _ => rfl)) (nomark _))))) (pss_one (ps_ret (pe_tup (pa_cons pe_int (pa_cons pe_int pa_nil))))) pss_nil)
      (pss_cons (ps_asg (pe_ix ix_list (pv 0) (pv 1) (fun _ _ => rfl)) (pg_tup rfl (pgs_cons (pg_name (i := 2) nd rfl (Or.inl rfl)) (pgs_cons (pg_name (i := 3) nd rfl (Or.inl rfl)) pgs_nil))))
      (pss_cons (ps_set (i := 4) nd rfl (Or.inl rfl) (pe_op op_sub (pe_ix ix_tup (pe_ix ix_list (pv 0) (pe_op op_add (pv 1) pe_int) (fun _ _ => rfl)) pe_int (fun _ _ => rfl)) (pv 3)))
      (pss_cons (ps_if (pt_not (pt_chain op_le op_le (pe_un un_neg pe_int) (pv 4) pe_int)) (pss_one (ps_ret (pe_tup (pa_cons pe_int (pa_cons pe_int pa_nil))))) pss_nil)
      (pss_cons (ps_set (i := 5) nd rfl (Or.inl rfl) pe_int)
      (pss_cons (ps_while PassesOwn.never (PW.pt (pw_and (pt_cmpR op_lt (pe_op op_add (pv 1) (pv 5)) (pe_callB call_len_seq (by rfl) T.b_len bt_len (pa_cons (pv 0) pa_nil)) (nomark _)) (pw_and1 (pt_cmpR (op_eqD hr.units) (pe_ix ix_list (pv 0) (pe_op op_add (pv 1) (pv 5)) (fun _ _ => rfl)) (pe_tup (pa_cons (pv 2) (pa_cons (pe_op op_add (pv 3) (pe_op op_mul (pv 4) (pv 5))) pa_nil))) (nomark _))))) (pss_one (ps_set (i := 5) nd rfl (Or.inl rfl) (pe_op op_add (pv 5) pe_int))))
      (pss_one (ps_ret (pe_tup (pa_cons (pv 4) (pa_cons (pv 5) pa_nil))))))))))), ?_⟩
    -- at + 1 == len(frames)
    refine ⟨_, rfl, _, _, rfl, rfl, _, rfl, a, _, rfl, .inl (sqL hp), rfl, _, rfl, ?_⟩
    by_cases hl : i + 1 = fs.length
    · refine iteB (decide_eq_true (congrArg V.int (by omega))) (iteT ⟨by show 2 ≤ sizeLine; decide, fun t ht => one_ (Run.one hx fun y hy => ?_) t ht⟩)
      rw [List.getElem?_eq_none (by omega)] at hy
      cases hy
    refine iteC (decide_eq_false fun z => hl (by injection z with z; omega)) ?_
    have hl2 : i + 1 < fs.length := by omega
    have hy : fs[i + 1]? = some fs[i + 1] := List.getElem?_eq_getElem hl2
    generalize fs[i + 1] = y at hy
    obtain ⟨_, e1, ⟨c1, rfl, h1⟩⟩ := ha.get' hy
    -- frames[at][0] != frames[at + 1][0]
    refine ⟨_, rfl, _, rfl, a, _, _, _, rfl, rfl, sqL hp, atI_nat e0, c0, _, _, _, rfl, rfl, sqT h0, atI_nat (j := 0) rfl, ?_⟩
    refine ⟨_, rfl, _, rfl, _, _, rfl, rfl, a, _, _, _, rfl, rfl, sqL hp, at_of (j := i + 1) (by omega) e1, c1, _, _, _, rfl, rfl, sqT h1, atI_nat (j := 0) rfl, rfl, _, rfl, ?_⟩
    by_cases hn : x.1 = y.1
    rotate_left
    · refine iteB (ndt fun z => hn (by injection z)) ⟨by show 2 ≤ sizeLine; decide, fun t ht => one_ (Run.one hx fun z hz => ?_) t ht⟩
      rw [hy] at hz
      cases hz
      unfold ext K62.one
      rw [if_neg (fun z => hn z.2.1), if_neg (fun z => absurd z.1 (Nat.lt_irrefl 1))]
    refine iteC (ndf (congrArg V.str hn)) ?_
    -- name, first = frames[at]
    refine ⟨_, rfl, _, rfl, a, _, _, _, rfl, rfl, sqL hp, atI_nat e0, c0, _, rfl, sqT h0, rfl, _, _, rfl, _, _, rfl, rfl, ?_⟩
    -- step = frames[at + 1][1] - first
    refine ⟨_, rfl, _, rfl, _, _, rfl, rfl, a, _, _, _, rfl, rfl, sqL hp, at_of (j := i + 1) (by omega) e1, c1, _, _, _, rfl, rfl, sqT h1, atI_nat (j := 1) rfl, _, rfl, _, _, rfl, rfl, ?_⟩
    -- not -1 <= step <= 1
    have off : ¬ (-1 ≤ y.2 - x.2 ∧ y.2 - x.2 ≤ 1) → Run fs i (one x) := fun hs => Run.one hx fun z hz => by
      rw [hy] at hz
      cases hz
      unfold ext K62.one
      rw [if_neg (fun z => hs z.2.2), if_neg (fun z => absurd z.1 (Nat.lt_irrefl 1))]
    refine ⟨_, rfl, _, rfl, _, _, rfl, rfl, _, rfl, ?_⟩
    by_cases s0 : -1 ≤ y.2 - x.2
    rotate_left
    · exact iteC (decide_eq_false s0) ⟨_, rfl, iteT ⟨by show 2 ≤ sizeLine; decide, fun t ht => one_ (off fun z => s0 z.1) t ht⟩⟩
    refine iteB (decide_eq_true s0) ⟨_, _, rfl, rfl, _, rfl, ?_⟩
    by_cases s1 : y.2 - x.2 ≤ 1
    rotate_left
    · exact iteB (ndt s1) ⟨by show 2 ≤ sizeLine; decide, fun t ht => one_ (off fun z => s1 z.2) t ht⟩
    refine iteC (ndf s1) ?_
    -- the while
    refine ⟨fun m σ H' => ∃ q : Ps, q.n = x.1 ∧ q.f = x.2 ∧ q.s = y.2 - x.2 ∧ Runs fs i q ∧ m = fs.length - (i + q.m) ∧ Same H H' ∧ σ = [some (.ref a), some (.int (i : Int)), some (.str x.1), some (.int x.2), some (.int (y.2 - x.2)), some (.int (q.m : Int))],
      ⟨_, ⟨x.1, x.2, y.2 - x.2, 2⟩, rfl, rfl, rfl, Runs.two hx hy hn s0 s1, rfl, Same.refl H, rfl⟩, ?_⟩
    rintro m σ H' ⟨q1, n1, n2, n3, rs, em, sm, rfl⟩
    have hp' := sm _ _ hp
    refine ⟨_, rfl, _, rfl, _, _, rfl, rfl, _, rfl, a, _, rfl, .inl (sqL hp'), _, _, rfl, rfl, _, rfl, ?_⟩
    have fin : (∀ z, fs[i + q1.m]? = some z → z ≠ (q1.n, q1.f + q1.s * (q1.m : Int))) → ∀ H2, Same H' H2 → ∀ t, H2 t = none → Q (.ref t) (upd H2 t (.tup [.int (y.2 - x.2), .int (q1.m : Int)])) := fun hz H2 s2 t ht => by
      refine q _ t q1 ((sm.trans s2).trans (sm_new ht)) (rs.done hz) ?_
      rw [upd_same, n3]
    by_cases hb : i + q1.m < fs.length
    rotate_left
    · refine iteC (decide_eq_false (by omega)) (iteF ?_)
      refine ⟨_, rfl, _, rfl, by show 2 ≤ sizeLine; decide, fun t ht => fin (fun z hz => ?_) H' (Same.refl _) t ht⟩
      rw [List.getElem?_eq_none (by omega)] at hz
      cases hz
    refine iteB (decide_eq_true (by omega)) ?_
    have hz : fs[i + q1.m]? = some fs[i + q1.m] := List.getElem?_eq_getElem hb
    generalize fs[i + q1.m] = z at hz
    obtain ⟨u2, e2, h2⟩ := ha.get' hz
    refine ⟨_, rfl, _, rfl, _, rfl, _, _, rfl, rfl, a, _, _, _, rfl, rfl, sqL hp', at_of (j := i + q1.m) (by omega) e2, ?_⟩
    refine ⟨_, rfl, _, rfl, _, rfl, _, rfl, _, _, rfl, rfl, .inl ⟨by omega, by omega⟩, _, _, rfl, rfl, by show 2 ≤ sizeLine; decide, fun t ht => ?_⟩
    have st : Same H' (upd H' t (.tup [.str x.1, .int (x.2 + (y.2 - x.2) * (q1.m : Int))])) := sm_new ht
    have ht2 : IsFr (upd H' t (.tup [.str x.1, .int (x.2 + (y.2 - x.2) * (q1.m : Int))])) (.ref t) (x.1, x.2 + (y.2 - x.2) * (q1.m : Int)) := ⟨t, rfl, upd_same⟩
    refine ⟨frD z, frD (x.1, x.2 + (y.2 - x.2) * (q1.m : Int)), (h2.ts (ts_of (sm.trans st))).dp, ht2.dp, frD_sh _ (vf _ (List.mem_of_getElem? hz)), shaped_of (by simp [frD, PyData.canLay0, PyData.canLayAll0, VFr.ok (vf _ (List.mem_of_getElem? hx))]) (Nat.le_trans (frD_dep _) (by decide)), _, rfl, ?_⟩
    rw [frD_eqv]
    by_cases he : z = (x.1, x.2 + (y.2 - x.2) * (q1.m : Int))
    · refine iteB (decide_eq_true he) ⟨fun σ2 H2 => ∃ m', m' < m ∧ (fun m σ H' => ∃ q : Ps, q.n = x.1 ∧ q.f = x.2 ∧ q.s = y.2 - x.2 ∧ Runs fs i q ∧ m = fs.length - (i + q.m) ∧ Same H H' ∧ σ = [some (.ref a), some (.int (i : Int)), some (.str x.1), some (.int x.2), some (.int (y.2 - x.2)), some (.int (q.m : Int))]) m' σ2 H2, fun _ _ z => z, ?_⟩
      refine ⟨_, rfl, _, _, rfl, rfl, fs.length - (i + (q1.m + 1)), by omega, { q1 with m := q1.m + 1 }, n1, n2, n3, rs.more ?_, rfl, sm.trans st, ?_⟩
      · rw [hz, he, n1, n2, n3]
      · simp only [Int.natCast_add]
        rfl
    · refine iteC (decide_eq_false he) ?_
      refine ⟨_, rfl, _, rfl, by show 2 ≤ sizeLine; decide, fun t2 ht2 => fin (fun z' hz' => ?_) _ st t2 ht2⟩
      rw [hz] at hz'
      cases hz'
      rw [n1, n2, n3]
      exact he
end
end K62
/-! K62, the walk, third part: least rows, cuts. -/
namespace K62
open PySem PySem.Spec PyProof.Rows L2
theorem vlen : ∀ {ps : List Ps}, (∀ p ∈ ps, VPx p) → ps.length ≤ len ps
  | [], _ => Nat.zero_le _
  | p :: ps, h => by
    have e : len (p :: ps) = p.m + len ps := by simp [len]
    have h1 := (h p List.mem_cons_self).m0
    have h2 := vlen (ps := ps) fun q hq => h q (List.mem_cons_of_mem _ hq)
    rw [List.length_cons, e]
    omega
theorem VRow.short {ps : List Ps} (v : VRw ps) : ps.length ≤ 3000 := Nat.le_trans (vlen v.1) v.2
section
variable {α : Type} {R : Hp → V → α → Prop} {H0 H : Hp} {p q : Addr} {as : List α}
/-- another list of ours is changed -/
theorem Grow.other (g : Grow R H0 H p as) (mono : ∀ H H' v a, TS H H' → R H v a → R H' v a) {ys zs : List V} (hq : H q = some (.lst ys)) (nq : H0 q = none) (ne : p ≠ q) : Grow R H0 (upd H q (.lst zs)) p as := by
  obtain ⟨xs, h1, h2⟩ := g.ls
  exact ⟨sm_mut g.sm nq, g.np, xs, by rw [upd_ne ne]; exact h1, h2.mono fun _ _ z => mono _ _ _ _ (TS.lst hq) z⟩
end
section
variable {P : Program} {w : World} {K : PySem.W.Frag} {mg : Str → Option Value} {base : Heap}
/-- t + u of rows -/
theorem catRow {H : Hp} {x y : V} {A B : List Ps} {Q : VK} (hA : IsRow H x A) (hB : IsRow H y B) (hz : A.length + B.length ≤ 90000) (q : ∀ v H', Same H H' → IsRow H' v (A ++ B) → Q v H') : rCatA K x y H Q := by
  obtain ⟨a, xs, rfl, h1, h2⟩ := hA
  obtain ⟨b, ys, rfl, h3, h4⟩ := hB
  refine ⟨a, b, xs, ys, rfl, rfl, sqT h1, sqT h3, sz_le (by rw [h2.len, h4.len]; omega), fun e => ?_, fun _ e => ?_, fun _ _ p hp => ?_⟩
  · subst e
    refine q _ _ (Same.refl H) ⟨b, ys, rfl, h3, ?_⟩
    cases A with
    | nil => exact h4
    | cons _ _ => exact h2.elim
  · subst e
    refine q _ _ (Same.refl H) ⟨a, xs, rfl, h1, ?_⟩
    cases B with
    | nil => rw [List.append_nil]; exact h2
    | cons _ _ => exact h4.elim
  · exact q _ _ (sm_new hp) ⟨p, xs ++ ys, rfl, upd_same, (h2.app h4).mono fun _ _ z => z.ts (ts_of (sm_new hp))⟩
def spFewestOf : Sp := fun vs H Q _ => ∃ (v : V) (fs : List Fs), vs = [v] ∧ IsFilm H v fs ∧ (∀ x ∈ fs, VF x) ∧ fs.length ≤ 90000 ∧ ∀ H' v', Same H H' → IsRow H' v' (least fs) → Q v' H'
theorem ok_fewest_of (D : DefF K mg "fewest_of" s_fewest_of) (T : Tx mg) (c_run_from : C8.Cal P w K mg base 1 "run_from" spRunFrom []) : C8.Cal P w K mg base 2 "fewest_of" spFewestOf [] := by
  refine D.cal sc_fewest_of (fun _ _ _ _ _ _ us hl => match us, hl with | [_], _ => rfl) (fun vs H Q E h => ?_) (fun f cdv A outer s H vs Q E hr h => ?_)
  · obtain ⟨_, _, rfl, _⟩ := h
    rfl
  · obtain ⟨_, fs, rfl, ⟨a, xs, rfl, hp, ha⟩, vf, hz, q⟩ := h
    have nd := sc_fewest_of.nd
    have hlen := ha.len
    refine ⟨_, (pss_cons (ps_set (i := 1) nd rfl (Or.inl rfl) (pe_lst pa_nil))
      (pss_cons (ps_set (i := 2) nd rfl (Or.inl rfl) pe_int)
      (pss_cons (ps_while PassesOwn.never (pt_cmpR op_lt (pv 2) (pe_callB call_len_seq (by rfl) T.b_len bt_len (pa_cons (pv 0) pa_nil)) (nomark _)) (pss_cons (ps_asg (C8.pe_c c_run_from hr (by decide) (by rfl) (pa_cons (pv 0) (pa_cons (pv 2) pa_nil))) (pg_tup rfl (pgs_cons (pg_name (i := 3) nd rfl (Or.inl rfl)) (pgs_cons (pg_name (i := 4) nd rfl (Or.inl rfl)) pgs_nil))))
      (pss_cons (ps_expr (pe_bm PySem.F.plainAttrs_list PySem.F.slot_list_append PySem.F.type_list_append mt_append (pv 1) (pa_cons (pe_tup (pa_cons (pe_ix ix_tup (pe_ix ix_list (pv 0) (pv 2) (fun _ _ => rfl)) pe_int (fun _ _ => rfl)) (pa_cons (pe_ix ix_tup (pe_ix ix_list (pv 0) (pv 2) (fun _ _ => rfl)) pe_int (fun _ _ => rfl)) (pa_cons (pv 3) (pa_cons (pv 4) pa_nil))))) pa_nil)))
      (pss_one (ps_set (i := 2) nd rfl (Or.inl rfl) (pe_op op_add (pv 2) (pv 4)))))))
      (pss_one (ps_ret (pe_callTy call_tuple_of (by rfl) T.b_tuple bt_tuple (pa_cons (pv 1) pa_nil))))))), ?_⟩
    refine ⟨Nat.zero_le _, fun l hl => ?_⟩
    refine ⟨fun m σ H' => ∃ (i : Nat) (found : List Ps) (u1 u2 : Option V), m = fs.length - i ∧ σ = [some (.ref a), some (.ref l), some (.int (i : Int)), u1, u2] ∧ Grow IsPc H H' l found ∧ Few fs i found, ⟨_, 0, [], none, none, rfl, rfl, Grow.start (Same.refl H) hl, Few.start fs⟩, ?_⟩
    rintro m σ H' ⟨i, found, u1, u2, em, rfl, g, fw⟩
    have hp' := g.sm _ _ hp
    refine ⟨_, rfl, _, rfl, a, _, rfl, .inl (sqL hp'), _, _, rfl, rfl, _, rfl, ?_⟩
    by_cases hi : i < fs.length
    · refine iteB (decide_eq_true (by omega)) ⟨fun σ2 H2 => ∃ m', m' < m ∧ (∃ (i : Nat) (found : List Ps) (u1 u2 : Option V), m' = fs.length - i ∧ σ2 = [some (.ref a), some (.ref l), some (.int (i : Int)), u1, u2] ∧ Grow IsPc H H2 l found ∧ Few fs i found), fun _ _ z => z, ?_⟩
      have hx : fs[i]? = some fs[i] := List.getElem?_eq_getElem hi
      generalize fs[i] = x at hx
      obtain ⟨_, e0, ⟨c0, rfl, h0⟩⟩ := ha.get' hx
      -- step, many = run_from(frames, at)
      refine ⟨_, rfl, _, rfl, _, i, fs, rfl, ⟨a, xs, rfl, hp', ha.mono fun _ _ z => z.ts (ts_of g.sm)⟩, hi, vf, fun H2 t q1 s2 rn ht => ?_⟩
      refine ⟨t, _, rfl, sqT ht, rfl, _, _, rfl, _, _, rfl, rfl, ?_⟩
      -- found.append((frames[at][0], frames[at][1], step, many))
      have g2 := g.keep mPc s2
      obtain ⟨ys, h1, h2⟩ := g2.ls
      have hp2 := g2.sm _ _ hp
      have h02 := g2.sm _ _ h0
      refine ⟨_, rfl, .inl ⟨rfl, _, sqL h1⟩, ?_⟩
      refine ⟨_, rfl, _, rfl, a, _, _, _, rfl, rfl, sqL hp2, atI_nat e0, c0, _, _, _, rfl, rfl, sqT h02, atI_nat (j := 0) rfl, ?_⟩
      refine ⟨_, rfl, _, rfl, a, _, _, _, rfl, rfl, sqL hp2, atI_nat e0, c0, _, _, _, rfl, rfl, sqT h02, atI_nat (j := 1) rfl, ?_⟩
      refine ⟨_, rfl, _, rfl, by show 4 ≤ sizeLine; decide, fun t2 ht2 => ?_⟩
      have g3 := g2.keep mPc (sm_new (o := .tup [.str x.1, .int x.2, .int q1.s, .int (q1.m : Int)]) ht2)
      obtain ⟨zs, h3, h4⟩ := g3.ls
      have le := fw.next rn
      have hf := len_least fs
      obtain ⟨z, hz1, hz2⟩ := rn.nm
      rw [hx] at hz1
      cases hz1
      refine ⟨l, zs, _, rfl, rfl, h3, sz_lt ?_, ?_⟩
      · have : found.length ≤ i := by
          rw [fw.got, List.length_reverse]
          have h5 : ∀ (l : List Fs) (acc : List Ps), (l.foldl stepL acc).length ≤ acc.length + l.length := by
            intro l
            induction l with
            | nil => intro acc; simp
            | cons y l ih =>
              intro acc
              have h6 : (stepL acc y).length ≤ acc.length + 1 := by
                unfold stepL
                split
                · simp
                · split <;> simp
              have h7 := ih (stepL acc y)
              rw [List.foldl_cons, List.length_cons]
              omega
          have h8 := h5 (fs.take i) []
          rw [List.length_take] at h8
          simp only [List.length_nil] at h8
          omega
        rw [h4.len]
        omega
      refine ⟨_, rfl, _, rfl, _, _, rfl, rfl, ?_⟩
      have pos := rn.pos
      refine ⟨fs.length - (i + q1.m), by omega, i + q1.m, found ++ [q1], some (.int q1.s), some (.int (q1.m : Int)), rfl, ?_, g3.more mPc h3 h4 (.one ⟨t2, rfl, ?_⟩), fw.next rn⟩
      · simp only [Int.natCast_add]
        rfl
      · rw [upd_same, ← hz2]
    · refine iteC (decide_eq_false (by omega)) ?_
      have e : i = fs.length := by
        have := fw.le
        omega
      subst e
      obtain ⟨ys, h1, h2⟩ := g.ls
      refine ⟨_, rfl, l, ys, rfl, .inl ⟨sqL h1, fun r hr => ?_⟩⟩
      refine q _ _ (g.sm.trans (sm_new hr)) ⟨r, ys, rfl, upd_same, ?_⟩
      rw [← fw.done]
      exact h2.mono fun _ _ z => z.ts (ts_of (sm_new hr))
def spLeast : Sp := fun vs H Q _ => ∃ (v : V) (ps : List Ps), vs = [v] ∧ IsRow H v ps ∧ VRw ps ∧ ∀ H' v', Same H H' → IsRow H' v' (least (film ps)) → Q v' H'
theorem ok_least (D : DefF K mg "least" s_least) (c_fewest_of : C8.Cal P w K mg base 2 "fewest_of" spFewestOf []) (c_film : C8.Cal P w K mg base 5 "film" spFilm []) : C8.Cal P w K mg base 6 "least" spLeast [] := by
  refine D.cal sc_least (fun _ _ _ _ _ _ us hl => match us, hl with | [_], _ => rfl) (fun vs H Q E h => ?_) (fun f cdv A outer s H vs Q E hr h => ?_)
  · obtain ⟨_, _, rfl, _⟩ := h
    rfl
  · obtain ⟨v, ps, rfl, hp, vr, q⟩ := h
    have nd := sc_least.nd
    have hs := VRow.short vr
    refine ⟨_, (pss_one (ps_ret (C8.pe_c c_fewest_of hr (by decide) (by rfl) (pa_cons (C8.pe_c c_film hr (by decide) (by rfl) (pa_cons (pv 0) pa_nil)) pa_nil)))), ?_⟩
    exact ⟨_, rfl, v, ps, rfl, hp, vr, by omega, fun H1 v1 s1 f1 => ⟨v1, film ps, rfl, f1, VPcs.frames vr.1, by rw [film_len]; have := vr.2; omega, fun H2 v2 s2 r2 => q _ _ (s1.trans s2) r2⟩⟩
def spPartedAt : Sp := fun vs H Q _ => ∃ (v : V) (i : Int) (ps : List Ps), vs = [v, .int i] ∧ IsRow H v ps ∧ VRw ps ∧ ∀ H' t va vb A B, Same H H' → H' t = some (.tup [va, vb]) → IsRow H' va A → IsRow H' vb B → Part Nm ("" : Str) ps i A B → Q (.ref t) H'
theorem ok_parted_at (D : DefF K mg "parted_at" s_parted_at) (T : Tx mg) : C8.Cal P w K mg base 1 "parted_at" spPartedAt [] := by
  refine D.cal sc_parted_at (fun _ _ _ _ _ _ us hl => match us, hl with | [_, _], _ => rfl) (fun vs H Q E h => ?_) (fun f cdv A outer s H vs Q E hr h => ?_)
  · obtain ⟨_, _, _, rfl, _⟩ := h
    rfl
  · obtain ⟨_, i0, ps, rfl, ⟨a, xs, rfl, hp, ha⟩, vr, q⟩ := h
    have nd := sc_parted_at.nd
    have hs := VRow.short vr
    have hlen := ha.len
    refine ⟨_, (pss_cons (ps_set (i := 2) nd rfl (Or.inl rfl) (pe_lst pa_nil))
      (pss_cons (ps_set (i := 3) nd rfl (Or.inl rfl) (pe_lst pa_nil))
      (pss_cons (ps_set (i := 4) nd rfl (Or.inl rfl) (pv 1))
      (pss_cons (ps_for PassesOwn.never rfl (pi_tup (pv 0)) (pg_tup rfl (pgs_cons (pg_name (i := 5) nd rfl (Or.inl rfl)) (pgs_cons (pg_name (i := 6) nd rfl (Or.inl rfl)) (pgs_cons (pg_name (i := 7) nd rfl (Or.inl rfl)) (pgs_cons (pg_name (i := 8) nd rfl (Or.inl rfl)) pgs_nil))))) (C8.pss_cut (ps_if (pt_cmpR op_ge (pv 4) (pv 8) (nomark _)) (pss_one (ps_expr (pe_bm PySem.F.plainAttrs_list PySem.F.slot_list_append PySem.F.type_list_append mt_append (pv 2) (pa_cons (pe_tup (pa_cons (pv 5) (pa_cons (pv 6) (pa_cons (pv 7) (pa_cons (pv 8) pa_nil))))) pa_nil)))) (pss_one (ps_if (pt_cmpR op_le (pv 4) pe_int (nomark _)) (pss_one (ps_expr (pe_bm PySem.F.plainAttrs_list PySem.F.slot_list_append PySem.F.type_list_append mt_append (pv 3) (pa_cons (pe_tup (pa_cons (pv 5) (pa_cons (pv 6) (pa_cons (pv 7) (pa_cons (pv 8) pa_nil))))) pa_nil)))) (pss_cons (ps_expr (pe_bm PySem.F.plainAttrs_list PySem.F.slot_list_append PySem.F.type_list_append mt_append (pv 2) (pa_cons (pe_tup (pa_cons (pv 5) (pa_cons (pv 6) (pa_cons (pv 7) (pa_cons (pv 4) pa_nil))))) pa_nil)))
      (pss_one (ps_expr (pe_bm PySem.F.plainAttrs_list PySem.F.slot_list_append PySem.F.type_list_append mt_append (pv 3) (pa_cons (pe_tup (pa_cons (pv 5) (pa_cons (pe_op op_add (pv 6) (pe_op op_mul (pv 7) (pv 4))) (pa_cons (pv 7) (pa_cons (pe_op op_sub (pv 8) (pv 4)) pa_nil))))) pa_nil))))))))
      (pss_one (ps_set (i := 4) nd rfl (Or.inl rfl) (pe_op op_sub (pv 4) (pv 8))))))
      (pss_one (ps_ret (pe_tup (pa_cons (pe_callTy call_tuple_of (by rfl) T.b_tuple bt_tuple (pa_cons (pv 2) pa_nil)) (pa_cons (pe_callTy call_tuple_of (by rfl) T.b_tuple bt_tuple (pa_cons (pv 3) pa_nil)) pa_nil))))))))), ?_⟩
    refine ⟨Nat.zero_le _, fun la hla => ⟨Nat.zero_le _, fun lb hlb => ?_⟩⟩
    have s1 : Same H (upd H la (.lst [])) := sm_new hla
    have hlb0 : H lb = none := Same.free s1 hlb
    have nab : la ≠ lb := ne_of_none upd_same hlb
    refine ⟨_, rfl, ?_⟩
    refine ⟨_, rfl, a, rfl, ⟨xs, sqT ((s1.trans (sm_new hlb)) _ _ hp)⟩, for_it (walk_tup (xs := xs)) (fun i σ H' => ∃ (A B : List Ps) (u1 u2 u3 u4 : Option V), σ = [some (.ref a), some (.int i0), some (.ref la), some (.ref lb), some (.int (i0 - (len (ps.take i) : Int))), u1, u2, u3, u4] ∧
      Grow IsPc H H' la A ∧ Grow IsPc H H' lb B ∧ Part Nm ("" : Str) (ps.take i) i0 A B) ⟨[], [], none, none, none, none, ?_, ?_, ?_, Part.start i0⟩ ?_ ?_ ?_⟩
    · have e : i0 - (len (ps.take 0) : Int) = i0 := by simp [len]
      rw [e]
      rfl
    · exact (Grow.start (Same.refl H) hla).keep mPc (sm_new hlb)
    · exact Grow.start s1 hlb
    · rintro i σ H' _ ⟨A, B, _, _, _, _, rfl, g, _⟩
      exact sqT (g.sm _ _ hp)
    · rintro i x σ H1 H2 hi ⟨A, B, _, _, _, _, rfl, ga, gb, pt⟩ ⟨rfl, hx⟩
      obtain ⟨p, ep, hc⟩ := ha.get hx
      have vp := vr.1 p (List.mem_of_getElem? ep)
      have tk := take_snoc ep
      have lt := len_take ps i
      have pla := pt.la
      have plb := pt.lb
      rw [List.length_take] at pla plb
      have v3 := vp.s0
      have v4 := vp.s1
      obtain ⟨c, rfl, hc⟩ := hc
      -- name, first, step, many
      refine ⟨c, _, rfl, sqT (ga.sm _ _ hc), rfl, _, _, rfl, _, _, rfl, _, _, rfl, _, _, rfl, rfl, ?_⟩
      refine ⟨fun σ' H' => ∃ (A B : List Ps), σ' = [some (.ref a), some (.int i0), some (.ref la), some (.ref lb), some (.int (i0 - (len (ps.take i) : Int))), some (.str p.n), some (.int p.f), some (.int p.s), some (.int (p.m : Int))] ∧
        Grow IsPc H H' la A ∧ Grow IsPc H H' lb B ∧ Part Nm ("" : Str) (ps.take (i + 1)) i0 A B, ?_, ?_⟩
      rotate_left
      · rintro σ' H' ⟨A, B, rfl, ga, gb, pt⟩
        refine ⟨_, rfl, _, rfl, _, _, rfl, rfl, A, B, some (.str p.n), some (.int p.f), some (.int p.s), some (.int (p.m : Int)), ?_, ga, gb, pt⟩
        have e : i0 - (len (ps.take i) : Int) - (p.m : Int) = i0 - (len (ps.take (i + 1)) : Int) := by
          rw [tk, len_app, len_one]
          omega
        rw [← e]
        rfl
      -- one piece is put at the end of a list
      have put : ∀ {l l2 : Addr} {H3 : Hp} {C E : List Ps} (pc : Ps) (tp : List V), tp = [.str pc.n, .int pc.f, .int pc.s, .int (pc.m : Int)] → Grow IsPc H H3 l C → Grow IsPc H H3 l2 E → l ≠ l2 → ∀ t, H3 t = none → ∀ zs : List V, (upd H3 t (.tup tp)) l = some (.lst zs) →
          Grow IsPc H (upd (upd H3 t (.tup tp)) l (.lst (zs ++ [.ref t]))) l (C ++ [pc]) ∧ Grow IsPc H (upd (upd H3 t (.tup tp)) l (.lst (zs ++ [.ref t]))) l2 E := by
        intro l l2 H3 C E pc tp htp gc ge ne t ht zs hzs
        subst htp
        have gc2 := gc.keep mPc (sm_new (o := .tup [.str pc.n, .int pc.f, .int pc.s, .int (pc.m : Int)]) ht)
        have ge2 := ge.keep mPc (sm_new (o := .tup [.str pc.n, .int pc.f, .int pc.s, .int (pc.m : Int)]) ht)
        obtain ⟨zs', h3, h4⟩ := gc2.ls
        have e : zs = zs' := by
          rw [h3] at hzs
          injection hzs with hzs
          injection hzs with hzs
          exact hzs.symm
        subst e
        exact ⟨gc2.more mPc h3 h4 (.one ⟨t, rfl, upd_same⟩), ge2.other mPc h3 gc2.np (Ne.symm ne)⟩
      have lst : ∀ {l : Addr} {H3 : Hp} {C : List Ps} (o : HO) (t : Addr), Grow IsPc H H3 l C → H3 t = none → ∃ zs : List V, (upd H3 t o) l = some (.lst zs) ∧ zs.length = C.length := by
        intro l H3 C o t gc ht
        obtain ⟨zs, h3, h4⟩ := gc.ls
        exact ⟨zs, sm_new ht _ _ h3, h4.len⟩
      obtain ⟨za, ha1, ha2⟩ := ga.ls
      obtain ⟨zb, hb1, hb2⟩ := gb.ls
      -- if left >= many
      refine ⟨_, rfl, _, rfl, _, _, rfl, rfl, _, rfl, ?_⟩
      by_cases h1 : (p.m : Int) ≤ i0 - (len (ps.take i) : Int)
      · refine iteB (decide_eq_true h1) ?_
        refine ⟨_, rfl, .inl ⟨rfl, _, sqL ha1⟩, _, rfl, _, rfl, _, rfl, _, rfl, by show 4 ≤ sizeLine; decide, fun t ht => ?_⟩
        obtain ⟨zs, hz, hzl⟩ := lst (.tup [.str p.n, .int p.f, .int p.s, .int (p.m : Int)]) t ga ht
        refine ⟨la, zs, _, rfl, rfl, hz, sz_lt (by omega), ?_⟩
        obtain ⟨g1, g2⟩ := put p _ rfl ga gb nab t ht zs hz
        refine ⟨_, _, rfl, g1, g2, ?_⟩
        rw [tk]
        exact pt.ahead vp h1
      refine iteC (decide_eq_false h1) ?_
      -- elif left <= 0
      refine ⟨_, rfl, _, _, rfl, rfl, _, rfl, ?_⟩
      by_cases h2 : i0 - (len (ps.take i) : Int) ≤ 0
      · refine iteB (decide_eq_true h2) ?_
        refine ⟨_, rfl, .inl ⟨rfl, _, sqL hb1⟩, _, rfl, _, rfl, _, rfl, _, rfl, by show 4 ≤ sizeLine; decide, fun t ht => ?_⟩
        obtain ⟨zs, hz, hzl⟩ := lst (.tup [.str p.n, .int p.f, .int p.s, .int (p.m : Int)]) t gb ht
        refine ⟨lb, zs, _, rfl, rfl, hz, sz_lt (by omega), ?_⟩
        obtain ⟨g1, g2⟩ := put p _ rfl gb ga (Ne.symm nab) t ht zs hz
        refine ⟨_, _, rfl, g2, g1, ?_⟩
        rw [tk]
        exact pt.behind vp h2
      refine iteC (decide_eq_false h2) ?_
      obtain ⟨k, hk⟩ : ∃ k : Nat, (k : Int) = i0 - (len (ps.take i) : Int) := ⟨(i0 - (len (ps.take i) : Int)).toNat, by omega⟩
      have k0 : 0 < k := by omega
      have k1 : k < p.m := by omega
      rw [← hk]
      have m1 := vp.m1
      refine ⟨_, rfl, .inl ⟨rfl, _, sqL ha1⟩, _, rfl, _, rfl, _, rfl, _, rfl, by show 4 ≤ sizeLine; decide, fun t ht => ?_⟩
      obtain ⟨zs, hz, hzl⟩ := lst (.tup [.str p.n, .int p.f, .int p.s, .int (k : Int)]) t ga ht
      refine ⟨la, zs, _, rfl, rfl, hz, sz_lt (by omega), ?_⟩
      obtain ⟨g1, g2⟩ := put ⟨p.n, p.f, p.s, k⟩ _ rfl ga gb nab t ht zs hz
      obtain ⟨zb2, hb3, hb4⟩ := g2.ls
      refine ⟨_, rfl, .inl ⟨rfl, _, sqL hb3⟩, _, rfl, _, rfl, _, rfl, _, rfl, _, _, rfl, rfl, .inl ⟨by omega, by omega⟩, _, _, rfl, rfl, _, rfl, _, rfl, _, rfl, _, _, rfl, rfl, by show 4 ≤ sizeLine; decide, fun t2 ht2 => ?_⟩
      have ek : (p.m : Int) - (k : Int) = ((p.m - k : Nat) : Int) := by omega
      obtain ⟨zs2, hz2, hzl2⟩ := lst (.tup [.str p.n, .int (p.f + p.s * (k : Int)), .int p.s, .int ((p.m : Int) - (k : Int))]) t2 g2 ht2
      refine ⟨lb, zs2, _, rfl, rfl, hz2, sz_lt (by omega), ?_⟩
      obtain ⟨g3, g4⟩ := put ⟨p.n, p.f + p.s * (k : Int), p.s, p.m - k⟩ [.str p.n, .int (p.f + p.s * (k : Int)), .int p.s, .int ((p.m : Int) - (k : Int))] (by rw [ek]) g2 g1 (Ne.symm nab) t2 ht2 zs2 hz2
      refine ⟨_, _, rfl, g4, g3, ?_⟩
      rw [tk]
      exact pt.mid vp hk k0 k1
    · rintro σ H' ⟨A, B, _, _, _, _, rfl, ga, gb, pt⟩
      rw [ha.len, List.take_length] at pt
      obtain ⟨za, ha1, ha2⟩ := ga.ls
      obtain ⟨zb, hb1, hb2⟩ := gb.ls
      refine ⟨_, rfl, la, za, rfl, .inl ⟨sqL ha1, fun ra hra => ?_⟩⟩
      have s2 : Same H' (upd H' ra (.tup za)) := sm_new hra
      refine ⟨_, rfl, lb, zb, rfl, .inl ⟨sqL (s2 _ _ hb1), fun rb hrb => ⟨by show 2 ≤ sizeLine; decide, fun t ht => ?_⟩⟩⟩
      have s3 := sm_new (o := .tup zb) hrb
      have s4 := sm_new (o := .tup [.ref ra, .ref rb]) ht
      have s5 := (s2.trans s3).trans s4
      exact q _ t _ _ A B (ga.sm.trans s5) upd_same ⟨ra, za, rfl, (s3.trans s4) _ _ upd_same, ha2.mono fun _ _ z => z.ts (ts_of s5)⟩ ⟨rb, zb, rfl, s4 _ _ upd_same, hb2.mono fun _ _ z => z.ts (ts_of s5)⟩ pt
end
end K62
/-! K62, the walk, fourth part: rows cut and put together. -/
namespace K62
open PySem PySem.Spec PyProof.Rows L2
theorem VRow.mk' {ps : List Ps} (v : ∀ p ∈ ps, VPx p) {n : Nat} (h : (film ps).length = n) (hn : n ≤ 3000) : VRw ps := ⟨v, by rw [← film_len, h]; exact hn⟩
section
variable {P : Program} {w : World} {K : PySem.W.Frag} {mg : Str → Option Value} {base : Heap}
def spNeedPlace : Sp := fun vs H Q _ => ∃ (v : V) (i : Int) (ps : List Ps), vs = [v, .int i] ∧ IsRow H v ps ∧ VRw ps ∧ 0 ≤ i ∧ i ≤ len ps ∧ ∀ H', Same H H' → Q .non H'
theorem ok_need_place (D : DefF K mg "need_place" s_need_place) (c_is_number : C8.Cal P w K mg base 1 "is_number" spIsNumber []) (c_length_of : C8.Cal P w K mg base 1 "length_of" spLengthOf []) : C8.Cal P w K mg base 2 "need_place" spNeedPlace [] := by
  refine D.cal sc_need_place (fun _ _ _ _ _ _ us hl => match us, hl with | [_, _], _ => rfl) (fun vs H Q E h => ?_) (fun f cdv A outer s H vs Q E hr h => ?_)
  · obtain ⟨_, _, _, rfl, _⟩ := h
    rfl
  · obtain ⟨v, i, ps, rfl, hp, vr, h0, h1, q⟩ := h
    have nd := sc_need_place.nd
    have hs := VRow.short vr
    refine ⟨_, (pss_one (ps_if (pt_not (pt_val (C8.pe_c c_is_number hr (by decide) (by rfl) (pa_cons (pv 1) (pa_cons pe_int (pa_cons (C8.pe_c c_length_of hr (by decide) (by rfl) (pa_cons (pv 0) pa_nil)) pa_nil)))))) (pss_one ps_never) pss_nil)), ?_⟩
    exact ⟨_, rfl, _, rfl, v, ps, rfl, hp, by omega, fun H1 s1 => ⟨_, _, _, rfl, h0, h1, true, rfl, iteC rfl (q _ s1)⟩⟩
def spShort : Sp := fun vs H Q _ => ∃ (v : V) (ps : List Ps), vs = [v] ∧ IsRow H v ps ∧ VRw ps ∧ ∀ H', Same H H' → Q v H'
theorem ok_short (D : DefF K mg "short" s_short) (T : Tx mg) (c_length_of : C8.Cal P w K mg base 1 "length_of" spLengthOf []) : C8.Cal P w K mg base 2 "short" spShort [] := by
  refine D.cal sc_short (fun _ _ _ _ _ _ us hl => match us, hl with | [_], _ => rfl) (fun vs H Q E h => ?_) (fun f cdv A outer s H vs Q E hr h => ?_)
  · obtain ⟨_, _, rfl, _⟩ := h
    rfl
  · obtain ⟨v, ps, rfl, hp, vr, q⟩ := h
    have nd := sc_short.nd
    have hs := VRow.short vr
    have h3 := vr.2
    refine ⟨_, (pss_cons (ps_if (pt_cmpR op_gt (C8.pe_c c_length_of hr (by decide) (by rfl) (pa_cons (pv 0) pa_nil)) (C8.pe_gc (by rfl) T.c_MOST_FRAMES) (nomark _)) (pss_one ps_never) pss_nil)
      (pss_one (ps_ret (pv 0)))), ?_⟩
    exact ⟨_, rfl, v, ps, rfl, hp, by omega, fun H1 s1 => ⟨_, _, rfl, rfl, _, rfl, iteC (decide_eq_false (by omega)) ⟨_, rfl, q _ s1⟩⟩⟩
def spPutIn : Sp := fun vs H Q _ => ∃ (v u : V) (i : Nat) (ps ms : List Ps), vs = [v, .int (i : Int), u] ∧ IsRow H v ps ∧ IsRow H u ms ∧ VRw ps ∧ VRw ms ∧ i ≤ len ps ∧ len ps + len ms ≤ 3000 ∧
  ∀ H' v' R, Same H H' → IsRow H' v' R → VRw R → film R = (film ps).take i ++ film ms ++ (film ps).drop i → Q v' H'
theorem ok_put_in (D : DefF K mg "put_in" s_put_in) (c_checked : C8.Cal P w K mg base 4 "checked" spChecked []) (c_need_place : C8.Cal P w K mg base 2 "need_place" spNeedPlace []) (c_parted_at : C8.Cal P w K mg base 1 "parted_at" spPartedAt [])
    (c_short : C8.Cal P w K mg base 2 "short" spShort []) : C8.Cal P w K mg base 5 "put_in" spPutIn [] := by
  refine D.cal sc_put_in (fun _ _ _ _ _ _ us hl => match us, hl with | [_, _, _], _ => rfl) (fun vs H Q E h => ?_) (fun f cdv A outer s H vs Q E hr h => ?_)
  · obtain ⟨_, _, _, _, _, rfl, _⟩ := h
    rfl
  · obtain ⟨v, u, i, ps, ms, rfl, hp, hm, vr, vm, hi, hz, q⟩ := h
    have nd := sc_put_in.nd
    have hs := VRow.short vr
    have hs2 := VRow.short vm
    refine ⟨_, (pss_cons (ps_expr (C8.pe_c c_checked hr (by decide) (by rfl) (pa_cons (pv 0) pa_nil)))
      (pss_cons (ps_expr (C8.pe_c c_checked hr (by decide) (by rfl) (pa_cons (pv 2) pa_nil)))
      (pss_cons (ps_expr (C8.pe_c c_need_place hr (by decide) (by rfl) (pa_cons (pv 0) (pa_cons (pv 1) pa_nil))))
      (pss_cons (ps_asg (C8.pe_c c_parted_at hr (by decide) (by rfl) (pa_cons (pv 0) (pa_cons (pv 1) pa_nil))) (pg_tup rfl (pgs_cons (pg_name (i := 3) nd rfl (Or.inl rfl)) (pgs_cons (pg_name (i := 4) nd rfl (Or.inl rfl)) pgs_nil))))
      (pss_one (ps_ret (C8.pe_c c_short hr (by decide) (by rfl) (pa_cons (pe_op op_catA (pe_op op_catA (pv 3) (pv 2)) (pv 4)) pa_nil)))))))), ?_⟩
    refine ⟨_, rfl, v, ps, rfl, hp, vr, by omega, fun H1 s1 => ?_⟩
    refine ⟨_, rfl, u, ms, rfl, hm.sm s1, vm, by omega, fun H2 s2 => ?_⟩
    have t2 := s1.trans s2
    refine ⟨_, rfl, _, rfl, v, i, ps, rfl, hp.sm t2, vr, by omega, by omega, fun H3 s3 => ?_⟩
    have t3 := t2.trans s3
    refine ⟨_, rfl, _, rfl, v, i, ps, rfl, hp.sm t3, vr, fun H4 t va vb A B s4 ht ra rb pt => ?_⟩
    have t4 := t3.trans s4
    refine ⟨t, _, rfl, sqT ht, rfl, _, _, rfl, _, _, rfl, rfl, ?_⟩
    have hA := vlen pt.va
    have hB := vlen pt.vb
    have fA := congrArg List.length pt.fa
    have fB := congrArg List.length pt.fb
    rw [film_len, List.length_take, film_len] at fA
    rw [film_len, List.length_drop, film_len] at fB
    have ei : ((i : Int)).toNat = i := by omega
    rw [ei] at fA fB
    refine ⟨_, rfl, _, rfl, catRow ra (hm.sm t4) (by omega) fun v5 H5 s5 r5 => ?_⟩
    refine ⟨_, rfl, catRow r5 (rb.sm s5) (by rw [List.length_append]; omega) fun v6 H6 s6 r6 => ?_⟩
    have fR : film (A ++ ms ++ B) = (film ps).take i ++ film ms ++ (film ps).drop i := by
      have e1 := pt.fa
      have e2 := pt.fb
      rw [ei] at e1 e2
      rw [film_app, film_app, e1, e2]
    have vR : VRw (A ++ ms ++ B) := VRow.mk' ((pt.va.app vm.1).app pt.vb) (n := len ps + len ms) (by rw [fR, List.length_append, List.length_append, List.length_take, List.length_drop, film_len, film_len]; omega) hz
    exact ⟨v6, _, rfl, r6, vR, fun H7 s7 => q _ _ _ (((t4.trans s5).trans s6).trans s7) (r6.sm s7) vR fR⟩
def spWithout : Sp := fun vs H Q _ => ∃ (v : V) (i m : Nat) (ps : List Ps), vs = [v, .int (i : Int), .int (m : Int)] ∧ IsRow H v ps ∧ VRw ps ∧ i + m ≤ len ps ∧
  ∀ H' v' R, Same H H' → IsRow H' v' R → VRw R → film R = (film ps).take i ++ (film ps).drop (i + m) → Q v' H'
theorem ok_without (D : DefF K mg "without" s_without) (c_parted_at : C8.Cal P w K mg base 1 "parted_at" spPartedAt []) : C8.Cal P w K mg base 2 "without" spWithout [] := by
  refine D.cal sc_without (fun _ _ _ _ _ _ us hl => match us, hl with | [_, _, _], _ => rfl) (fun vs H Q E h => ?_) (fun f cdv A outer s H vs Q E hr h => ?_)
  · obtain ⟨_, _, _, _, rfl, _⟩ := h
    rfl
  · obtain ⟨v, i, m, ps, rfl, hp, vr, hi, q⟩ := h
    have nd := sc_without.nd
    have h3 := vr.2
    refine ⟨_, (pss_one (ps_ret (pe_op op_catA (pe_ix ix_tup (C8.pe_c c_parted_at hr (by decide) (by rfl) (pa_cons (pv 0) (pa_cons (pv 1) pa_nil))) pe_int (fun _ _ => rfl)) (pe_ix ix_tup (C8.pe_c c_parted_at hr (by decide) (by rfl) (pa_cons (pv 0) (pa_cons (pe_op op_add (pv 1) (pv 2)) pa_nil))) pe_int (fun _ _ => rfl))))), ?_⟩
    refine ⟨_, rfl, _, rfl, v, i, ps, rfl, hp, vr, fun H4 t va vb A B s4 ht ra rb pt => ?_⟩
    refine ⟨t, _, _, _, rfl, rfl, sqT ht, atI_nat (j := 0) rfl, ?_⟩
    refine ⟨_, rfl, _, rfl, _, rfl, _, _, rfl, rfl, v, _, ps, rfl, hp.sm s4, vr, fun H5 t5 vc vd C E s5 ht5 rc rd pt5 => ?_⟩
    refine ⟨t5, _, _, _, rfl, rfl, sqT ht5, atI_nat (j := 1) rfl, ?_⟩
    have hA := vlen pt.va
    have hE := vlen pt5.vb
    have fA := congrArg List.length pt.fa
    have fB := congrArg List.length pt5.fb
    rw [film_len, List.length_take, film_len] at fA
    rw [film_len, List.length_drop, film_len] at fB
    have ei : ((i : Int)).toNat = i := by omega
    have ei2 : ((i : Int) + (m : Int)).toNat = i + m := by omega
    refine catRow (ra.sm s5) rd (by omega) fun v6 H6 s6 r6 => ?_
    have fR : film (A ++ E) = (film ps).take i ++ (film ps).drop (i + m) := by
      have e1 := pt.fa
      have e2 := pt5.fb
      rw [ei] at e1
      rw [ei2] at e2
      rw [film_app, e1, e2]
    have vR : VRw (A ++ E) := VRow.mk' (pt.va.app pt5.vb) (n := len ps - m) (by rw [fR, List.length_append, List.length_take, List.length_drop, film_len]; omega) (by omega)
    exact q _ _ _ ((s4.trans s5).trans s6) r6 vR fR
def spLaidOver : Sp := fun vs H Q _ => ∃ (v u : V) (i : Nat) (ps ms : List Ps), vs = [v, .int (i : Int), u] ∧ IsRow H v ps ∧ IsRow H u ms ∧ VRw ps ∧ VRw ms ∧ i + len ms ≤ len ps ∧
  ∀ H' v' R, Same H H' → IsRow H' v' R → VRw R → film R = (film ps).take i ++ film ms ++ (film ps).drop (i + len ms) → Q v' H'
theorem ok_laid_over (D : DefF K mg "laid_over" s_laid_over) (c_checked : C8.Cal P w K mg base 4 "checked" spChecked []) (c_need_place : C8.Cal P w K mg base 2 "need_place" spNeedPlace []) (c_parted_at : C8.Cal P w K mg base 1 "parted_at" spPartedAt [])
    (c_short : C8.Cal P w K mg base 2 "short" spShort []) (c_length_of : C8.Cal P w K mg base 1 "length_of" spLengthOf []) : C8.Cal P w K mg base 5 "laid_over" spLaidOver [] := by
  refine D.cal sc_laid_over (fun _ _ _ _ _ _ us hl => match us, hl with | [_, _, _], _ => rfl) (fun vs H Q E h => ?_) (fun f cdv A outer s H vs Q E hr h => ?_)
  · obtain ⟨_, _, _, _, _, rfl, _⟩ := h
    rfl
  · obtain ⟨v, u, i, ps, ms, rfl, hp, hm, vr, vm, hi, q⟩ := h
    have nd := sc_laid_over.nd
    have hs := VRow.short vr
    have hs2 := VRow.short vm
    have h3 := vr.2
    refine ⟨_, (pss_cons (ps_expr (C8.pe_c c_checked hr (by decide) (by rfl) (pa_cons (pv 0) pa_nil)))
      (pss_cons (ps_expr (C8.pe_c c_checked hr (by decide) (by rfl) (pa_cons (pv 2) pa_nil)))
      (pss_cons (ps_expr (C8.pe_c c_need_place hr (by decide) (by rfl) (pa_cons (pv 0) (pa_cons (pv 1) pa_nil))))
      (pss_one (ps_ret (C8.pe_c c_short hr (by decide) (by rfl) (pa_cons (pe_op op_catA (pe_op op_catA (pe_ix ix_tup (C8.pe_c c_parted_at hr (by decide) (by rfl) (pa_cons (pv 0) (pa_cons (pv 1) pa_nil))) pe_int (fun _ _ => rfl)) (pv 2)) (pe_ix ix_tup (C8.pe_c c_parted_at hr (by decide) (by rfl) (pa_cons (pv 0) (pa_cons (pe_op op_add (pv 1) (C8.pe_c c_length_of hr (by decide) (by rfl) (pa_cons (pv 2) pa_nil))) pa_nil))) pe_int (fun _ _ => rfl))) pa_nil))))))), ?_⟩
    refine ⟨_, rfl, v, ps, rfl, hp, vr, by omega, fun H1 s1 => ?_⟩
    refine ⟨_, rfl, u, ms, rfl, hm.sm s1, vm, by omega, fun H2 s2 => ?_⟩
    have t2 := s1.trans s2
    refine ⟨_, rfl, _, rfl, v, i, ps, rfl, hp.sm t2, vr, by omega, by omega, fun H3 s3 => ?_⟩
    have t3 := t2.trans s3
    refine ⟨_, rfl, _, rfl, v, i, ps, rfl, hp.sm t3, vr, fun H4 t va vb A B s4 ht ra rb pt => ?_⟩
    have t4 := t3.trans s4
    refine ⟨t, _, _, _, rfl, rfl, sqT ht, atI_nat (j := 0) rfl, ?_⟩
    have hA := vlen pt.va
    have fA := congrArg List.length pt.fa
    rw [film_len, List.length_take, film_len] at fA
    have ei : ((i : Int)).toNat = i := by omega
    refine ⟨_, rfl, catRow ra (hm.sm t4) (by omega) fun v5 H5 s5 r5 => ?_⟩
    have t5 := t4.trans s5
    refine ⟨_, rfl, _, rfl, _, rfl, u, ms, rfl, hm.sm t5, by omega, fun H6 s6 => ?_⟩
    have t6 := t5.trans s6
    refine ⟨_, _, rfl, rfl, v, _, ps, rfl, hp.sm t6, vr, fun H7 t7 vc vd C E s7 ht7 rc rd pt7 => ?_⟩
    have t7s := t6.trans s7
    refine ⟨t7, _, _, _, rfl, rfl, sqT ht7, atI_nat (j := 1) rfl, ?_⟩
    have hE := vlen pt7.vb
    have fB := congrArg List.length pt7.fb
    rw [film_len, List.length_drop, film_len] at fB
    have ei2 : ((i : Int) + (len ms : Int)).toNat = i + len ms := by omega
    refine catRow (r5.sm (s6.trans s7)) rd (by rw [List.length_append]; omega) fun v8 H8 s8 r8 => ?_
    have fR : film (A ++ ms ++ E) = (film ps).take i ++ film ms ++ (film ps).drop (i + len ms) := by
      have e1 := pt.fa
      have e2 := pt7.fb
      rw [ei] at e1
      rw [ei2] at e2
      rw [film_app, film_app, e1, e2]
    have vR : VRw (A ++ ms ++ E) := VRow.mk' ((pt.va.app vm.1).app pt7.vb) (n := len ps) (by rw [fR, List.length_append, List.length_append, List.length_take, List.length_drop, film_len, film_len]; omega) h3
    exact ⟨v8, _, rfl, r8, vR, fun H9 s9 => q _ _ _ ((t7s.trans s8).trans s9) (r8.sm s9) vR fR⟩
end
end K62
/-! K62, the walk, fifth part: deeds. -/
namespace K62
open PySem PySem.Spec PyProof.Rows L2
abbrev VPt (ps : List Ps) : Prop := VPart Nm ("" : Str) ps
theorem IsDd.cs {H : Hp} {v : V} {d : Ds} (h : IsDd H v d) : ∃ a r, v = .ref a ∧ IsRow H r d.p ∧ ((d.k = .put ∧ H a = some (.tup [.str "put", .int (d.a : Int), r])) ∨ (d.k = .out ∧ H a = some (.tup [.str "out", .int (d.a : Int), r])) ∨
    (d.k = .over ∧ ∃ q, IsRow H q d.q ∧ H a = some (.tup [.str "over", .int (d.a : Int), r, q]))) := by
  obtain ⟨a, r, rest, rfl, h1, h2, h3⟩ := h
  refine ⟨a, r, rfl, h2, ?_⟩
  rcases h3 with ⟨k, rfl⟩ | ⟨k, q, rfl, h4⟩
  · cases e : d.k with
    | put =>
      rw [e] at h1
      exact .inl ⟨rfl, h1⟩
    | out =>
      rw [e] at h1
      exact .inr (.inl ⟨rfl, h1⟩)
    | over => exact absurd e k
  · rw [k] at h1
    exact .inr (.inr ⟨k, q, h4, h1⟩)
theorem s_op : ¬ V.str ("out" : Str) = V.str ("put" : Str) := by decide +kernel
theorem s_vp : ¬ V.str ("over" : Str) = V.str ("put" : Str) := by decide +kernel
theorem s_vo : ¬ V.str ("over" : Str) = V.str ("out" : Str) := by decide +kernel
theorem s_po : ¬ V.str ("put" : Str) = V.str ("out" : Str) := by decide +kernel
theorem s_pv : ¬ V.str ("put" : Str) = V.str ("over" : Str) := by decide +kernel
theorem s_ov : ¬ V.str ("out" : Str) = V.str ("over" : Str) := by decide +kernel
section
variable {P : Program} {w : World} {K : PySem.W.Frag} {mg : Str → Option Value} {base : Heap}
theorem catT {H : Hp} {a b : Addr} {xs ys : List V} {Q : VK} (h1 : H a = some (.tup xs)) (h2 : H b = some (.tup ys)) (n1 : xs ≠ []) (n2 : ys ≠ []) (hz : xs.length + ys.length ≤ 90000) (q : ∀ p H', Same H H' → H' p = some (.tup (xs ++ ys)) → Q (.ref p) H') : rCatA K (.ref a) (.ref b) H Q :=
  ⟨a, b, xs, ys, rfl, rfl, sqT h1, sqT h2, sz_le (by omega), fun e => absurd e n1, fun _ e => absurd e n2, fun _ _ p hp => q p _ (sm_new hp) upd_same⟩
def spIsPart : Sp := fun vs H Q _ => ∃ (v : V) (ps : List Ps), vs = [v] ∧ IsRow H v ps ∧ VPt ps ∧ ∀ H', Same H H' → Q (.bl true) H'
theorem ok_is_part (D : DefF K mg "is_part" s_is_part) (c_is_row : C8.Cal P w K mg base 3 "is_row" spIsRow []) (c_film_of : C8.Cal P w K mg base 2 "film_of" spFilmOf []) (c_fewest_of : C8.Cal P w K mg base 2 "fewest_of" spFewestOf []) : C8.Cal P w K mg base 4 "is_part" spIsPart [] := by
  refine D.cal sc_is_part (fun _ _ _ _ _ _ us hl => match us, hl with | [_], _ => rfl) (fun vs H Q E h => ?_) (fun f cdv A outer s H vs Q E hr h => ?_)
  · obtain ⟨_, _, rfl, _⟩ := h
    rfl
  · obtain ⟨v, ps, rfl, hp, vp, q⟩ := h
    have nd := sc_is_part.nd
    have hs := VRow.short vp.row
    have h3 := vp.row.2
    refine ⟨_, (pss_one (ps_ret (pe_and (C8.pe_c c_is_row hr (by decide) (by rfl) (pa_cons (pv 0) pa_nil)) (pe_and (pe_cmpR (op_neD hr.units) (pv 0) (pe_tup pa_nil) (nomark _)) (pe_one (pe_cmpR (op_eqD hr.units) (C8.pe_c c_fewest_of hr (by decide) (by rfl) (pa_cons (C8.pe_c c_film_of hr (by decide) (by rfl) (pa_cons (pv 0) pa_nil)) pa_nil)) (pv 0) (nomark _))))))), ?_⟩
    refine ⟨_, rfl, v, ps, rfl, hp, vp.row, by omega, fun H1 s1 => ⟨true, rfl, iteT ?_⟩⟩
    refine ⟨_, rfl, Nat.zero_le _, fun t ht => ?_⟩
    have s2 := s1.trans (sm_new (o := .tup []) ht)
    have e0 : IsRow (upd H1 t (.tup [])) (.ref t) [] := ⟨t, [], rfl, upd_same, trivial⟩
    refine ⟨_, _, (hp.sm s2).dp, e0.dp, row_sh vp.row.1, row_sh (fun _ h => nomatch h), _, rfl, ?_⟩
    refine iteB (by rw [row_eqv]; exact ndt vp.ne) ?_
    refine ⟨_, rfl, v, ps, rfl, hp.sm s2, vp.row, fun H3 v3 s3 f3 => ?_⟩
    refine ⟨v3, film ps, rfl, f3, VPcs.frames vp.row.1, by rw [film_len]; omega, fun H4 v4 s4 r4 => ?_⟩
    refine ⟨_, rfl, _, _, r4.dp, ((hp.sm s2).sm (s3.trans s4)).dp, ?_, row_sh vp.row.1, ?_⟩
    · rw [vp.lst]
      exact row_sh vp.row.1
    · exact qb (by rw [row_eqv, vp.lst]; exact decide_eq_true rfl) (q _ (s2.trans (s3.trans s4)))
def spIsPlace : Sp := fun vs H Q _ => ∃ i : Int, vs = [.int i] ∧ 0 ≤ i ∧ Q (.bl true) H
theorem ok_is_place (D : DefF K mg "is_place" s_is_place) (T : Tx mg) : C8.Cal P w K mg base 1 "is_place" spIsPlace [] := by
  refine D.cal sc_is_place (fun _ _ _ _ _ _ us hl => match us, hl with | [_], _ => rfl) (fun vs H Q E h => ?_) (fun f cdv A outer s H vs Q E hr h => ?_)
  · obtain ⟨_, rfl, _⟩ := h
    rfl
  · obtain ⟨i, rfl, h0, q⟩ := h
    have nd := sc_is_place.nd
    refine ⟨_, (pss_one (ps_ret (pe_and (pe_callB call_isi (by rfl) T.b_isinstance bt_isinstance (pa_cons (pv 0) (pa_cons (pe_bltn (v := .ty "int") (by rfl) T.b_int bt_int rfl) pa_nil))) (pe_and (pe_not (pe_callB call_isi (by rfl) T.b_isinstance bt_isinstance (pa_cons (pv 0) (pa_cons (pe_bltn (v := .ty "bool") (by rfl) T.b_bool bt_bool rfl) pa_nil)))) (pe_one (pe_cmpR op_ge (pv 0) pe_int (nomark _))))))), ?_⟩
    refine ⟨_, rfl, _, _, _, _, true, rfl, .ty "int", ty_i, kit_ty kit_ii, true, rfl, iteT ?_⟩
    refine ⟨_, rfl, _, _, _, _, false, rfl, .ty "bool", ty_i, kit_ty kit_ib, false, rfl, true, rfl, iteT ?_⟩
    exact ⟨_, rfl, _, _, rfl, rfl, qb (decide_eq_true h0) q⟩
def spIsDeed : Sp := fun vs H Q _ => ∃ (v : V) (d : Ds), vs = [v] ∧ IsDd H v d ∧ VDx d ∧ ∀ H', Same H H' → Q (.bl true) H'
theorem ok_is_deed (D : DefF K mg "is_deed" s_is_deed) (T : Tx mg) (c_is_place : C8.Cal P w K mg base 1 "is_place" spIsPlace []) (c_is_part : C8.Cal P w K mg base 4 "is_part" spIsPart []) (c_length_of : C8.Cal P w K mg base 1 "length_of" spLengthOf []) : C8.Cal P w K mg base 5 "is_deed" spIsDeed [] := by
  refine D.cal sc_is_deed (fun _ _ _ _ _ _ us hl => match us, hl with | [_], _ => rfl) (fun vs H Q E h => ?_) (fun f cdv A outer s H vs Q E hr h => ?_)
  · obtain ⟨_, _, rfl, _⟩ := h
    rfl
  · obtain ⟨v, d, rfl, hd, vd, q⟩ := h
    have nd := sc_is_deed.nd
    refine ⟨_, (pss_cons (ps_if (PW.pt (pw_or (pt_not (pt_val (pe_callB call_isi (by rfl) T.b_isinstance bt_isinstance (pa_cons (pv 0) (pa_cons (pe_bltn (v := .ty "tuple") (by rfl) T.b_tuple bt_tuple rfl) pa_nil))))) (pw_or (pt_not (pt_chain op_le op_le pe_int (pe_callB call_len_seq (by rfl) T.b_len bt_len (pa_cons (pv 0) pa_nil)) pe_int)) (pw_or1 (pt_not (pt_val (C8.pe_c c_is_place hr (by decide) (by rfl) (pa_cons (pe_ix ix_tup (pv 0) pe_int (fun _ _ => rfl)) pa_nil)))))))) (pss_one (ps_ret pe_bl)) pss_nil)
      (pss_cons (ps_if (PW.pt (pw_or (pt_cmpR op_eq (pe_ix ix_tup (pv 0) pe_int (fun _ _ => rfl)) pe_str (nomark _)) (pw_or1 (pt_cmpR op_eq (pe_ix ix_tup (pv 0) pe_int (fun _ _ => rfl)) pe_str (nomark _))))) (pss_one (ps_ret (pe_and (pe_cmpR op_eq (pe_callB call_len_seq (by rfl) T.b_len bt_len (pa_cons (pv 0) pa_nil)) pe_int (nomark _)) (pe_one (C8.pe_c c_is_part hr (by decide) (by rfl) (pa_cons (pe_ix ix_tup (pv 0) pe_int (fun _ _ => rfl)) pa_nil)))))) pss_nil)
      (pss_cons (ps_if (PW.pt (pw_or (pt_cmpR op_ne (pe_ix ix_tup (pv 0) pe_int (fun _ _ => rfl)) pe_str (nomark _)) (pw_or (pt_cmpR op_ne (pe_callB call_len_seq (by rfl) T.b_len bt_len (pa_cons (pv 0) pa_nil)) pe_int (nomark _)) (pw_or (pt_not (pt_val (C8.pe_c c_is_part hr (by decide) (by rfl) (pa_cons (pe_ix ix_tup (pv 0) pe_int (fun _ _ => rfl)) pa_nil)))) (pw_or1 (pt_not (pt_val (C8.pe_c c_is_part hr (by decide) (by rfl) (pa_cons (pe_ix ix_tup (pv 0) pe_int (fun _ _ => rfl)) pa_nil))))))))) (pss_one (ps_ret pe_bl)) pss_nil)
      (pss_one (ps_ret (pe_cmpR op_eq (C8.pe_c c_length_of hr (by decide) (by rfl) (pa_cons (pe_ix ix_tup (pv 0) pe_int (fun _ _ => rfl)) pa_nil)) (C8.pe_c c_length_of hr (by decide) (by rfl) (pa_cons (pe_ix ix_tup (pv 0) pe_int (fun _ _ => rfl)) pa_nil)) (nomark _))))))), ?_⟩
    obtain ⟨a, r, rfl, hrow, hc⟩ := hd.cs
    have hs := VRow.short vd.p.row
    rcases hc with ⟨k, h⟩ | ⟨k, h⟩ | ⟨k, u, hu, h⟩
    · refine ⟨_, rfl, _, _, _, _, true, rfl, .ty "tuple", ty_t h, kit_ty kit_tt, true, rfl, iteC rfl ?_⟩
      refine ⟨_, rfl, _, _, rfl, .inr (sqT h), _, _, rfl, rfl, true, rfl, iteT ⟨_, _, rfl, rfl, true, rfl, iteC rfl ?_⟩⟩
      refine ⟨_, rfl, a, _, _, _, rfl, rfl, sqT h, atI_nat (j := 1) rfl, _, rfl, Int.natCast_nonneg _, true, rfl, iteC rfl ?_⟩
      refine ⟨_, rfl, a, _, _, _, rfl, rfl, sqT h, atI_nat (j := 0) rfl, rfl, _, rfl, iteB (decide_eq_true rfl) (iteT ?_)⟩
      refine ⟨_, rfl, _, _, rfl, .inr (sqT h), rfl, _, rfl, iteB (decide_eq_true rfl) ?_⟩
      exact ⟨_, rfl, a, _, _, _, rfl, rfl, sqT h, atI_nat (j := 2) rfl, r, _, rfl, hrow, vd.p, fun H1 s1 => q _ s1⟩
    · refine ⟨_, rfl, _, _, _, _, true, rfl, .ty "tuple", ty_t h, kit_ty kit_tt, true, rfl, iteC rfl ?_⟩
      refine ⟨_, rfl, _, _, rfl, .inr (sqT h), _, _, rfl, rfl, true, rfl, iteT ⟨_, _, rfl, rfl, true, rfl, iteC rfl ?_⟩⟩
      refine ⟨_, rfl, a, _, _, _, rfl, rfl, sqT h, atI_nat (j := 1) rfl, _, rfl, Int.natCast_nonneg _, true, rfl, iteC rfl ?_⟩
      refine ⟨_, rfl, a, _, _, _, rfl, rfl, sqT h, atI_nat (j := 0) rfl, rfl, _, rfl, iteC (decide_eq_false s_op) ?_⟩
      refine ⟨_, rfl, a, _, _, _, rfl, rfl, sqT h, atI_nat (j := 0) rfl, rfl, _, rfl, iteB (decide_eq_true rfl) ?_⟩
      refine ⟨_, rfl, _, _, rfl, .inr (sqT h), rfl, _, rfl, iteB (decide_eq_true rfl) ?_⟩
      exact ⟨_, rfl, a, _, _, _, rfl, rfl, sqT h, atI_nat (j := 2) rfl, r, _, rfl, hrow, vd.p, fun H1 s1 => q _ s1⟩
    · obtain ⟨vq, eq⟩ := vd.q k
      have hs2 := VRow.short vq.row
      refine ⟨_, rfl, _, _, _, _, true, rfl, .ty "tuple", ty_t h, kit_ty kit_tt, true, rfl, iteC rfl ?_⟩
      refine ⟨_, rfl, _, _, rfl, .inr (sqT h), _, _, rfl, rfl, true, rfl, iteT ⟨_, _, rfl, rfl, true, rfl, iteC rfl ?_⟩⟩
      refine ⟨_, rfl, a, _, _, _, rfl, rfl, sqT h, atI_nat (j := 1) rfl, _, rfl, Int.natCast_nonneg _, true, rfl, iteC rfl ?_⟩
      refine ⟨_, rfl, a, _, _, _, rfl, rfl, sqT h, atI_nat (j := 0) rfl, rfl, _, rfl, iteC (decide_eq_false s_vp) ?_⟩
      refine ⟨_, rfl, a, _, _, _, rfl, rfl, sqT h, atI_nat (j := 0) rfl, rfl, _, rfl, iteC (decide_eq_false s_vo) ?_⟩
      refine ⟨_, rfl, a, _, _, _, rfl, rfl, sqT h, atI_nat (j := 0) rfl, rfl, _, rfl, iteC (ndf rfl) ?_⟩
      refine ⟨_, rfl, _, _, rfl, .inr (sqT h), rfl, _, rfl, iteC (ndf rfl) ?_⟩
      refine ⟨_, rfl, a, _, _, _, rfl, rfl, sqT h, atI_nat (j := 2) rfl, r, _, rfl, hrow, vd.p, fun H1 s1 => ⟨true, rfl, iteC rfl ?_⟩⟩
      have h1 := s1 _ _ h
      refine ⟨_, rfl, a, _, _, _, rfl, rfl, sqT h1, atI_nat (j := 3) rfl, u, _, rfl, hu.sm s1, vq, fun H2 s2 => ⟨true, rfl, iteC rfl ?_⟩⟩
      have h2 := s2 _ _ h1
      have t2 := s1.trans s2
      refine ⟨_, rfl, a, _, _, _, rfl, rfl, sqT h2, atI_nat (j := 2) rfl, r, _, rfl, hrow.sm t2, by omega, fun H3 s3 => ?_⟩
      have t3 := t2.trans s3
      refine ⟨_, rfl, a, _, _, _, rfl, rfl, sqT (s3 _ _ h2), atI_nat (j := 3) rfl, u, _, rfl, hu.sm t3, by omega, fun H4 s4 => ?_⟩
      exact ⟨rfl, qb (decide_eq_true (congrArg V.int (by omega))) (q _ (t3.trans s4))⟩
def spFramesIn : Sp := fun vs H Q _ => ∃ (v : V) (d : Ds), vs = [v] ∧ IsDd H v d ∧ VDx d ∧ ∀ H', Same H H' → Q (.int (len d.p : Int)) H'
theorem ok_frames_in (D : DefF K mg "frames_in" s_frames_in) (c_length_of : C8.Cal P w K mg base 1 "length_of" spLengthOf []) : C8.Cal P w K mg base 2 "frames_in" spFramesIn [] := by
  refine D.cal sc_frames_in (fun _ _ _ _ _ _ us hl => match us, hl with | [_], _ => rfl) (fun vs H Q E h => ?_) (fun f cdv A outer s H vs Q E hr h => ?_)
  · obtain ⟨_, _, rfl, _⟩ := h
    rfl
  · obtain ⟨v, d, rfl, ⟨a, r, rest, rfl, h, hrow, _⟩, vd, q⟩ := h
    have nd := sc_frames_in.nd
    have hs := VRow.short vd.p.row
    refine ⟨_, (pss_one (ps_ret (C8.pe_c c_length_of hr (by decide) (by rfl) (pa_cons (pe_ix ix_tup (pv 0) pe_int (fun _ _ => rfl)) pa_nil)))), ?_⟩
    exact ⟨_, rfl, a, _, _, _, rfl, rfl, sqT h, atI_nat (j := 2) rfl, r, _, rfl, hrow, by omega, fun H1 s1 => q _ s1⟩
def spGrowth : Sp := fun vs H Q _ => ∃ (v : V) (d : Ds), vs = [v] ∧ IsDd H v d ∧ VDx d ∧ ∀ H', Same H H' → Q (.int ((d.nn : Int) - (d.o : Int))) H'
theorem ok_growth (D : DefF K mg "growth" s_growth) (c_frames_in : C8.Cal P w K mg base 2 "frames_in" spFramesIn []) : C8.Cal P w K mg base 3 "growth" spGrowth [] := by
  refine D.cal sc_growth (fun _ _ _ _ _ _ us hl => match us, hl with | [_], _ => rfl) (fun vs H Q E h => ?_) (fun f cdv A outer s H vs Q E hr h => ?_)
  · obtain ⟨_, _, rfl, _⟩ := h
    rfl
  · obtain ⟨v, d, rfl, hd, vd, q⟩ := h
    have nd := sc_growth.nd
    refine ⟨_, (pss_cons (ps_if (pt_cmpR op_eq (pe_ix ix_tup (pv 0) pe_int (fun _ _ => rfl)) pe_str (nomark _)) (pss_one (ps_ret pe_int)) pss_nil)
      (pss_one (ps_ret (pe_ifExp (pt_cmpR op_eq (pe_ix ix_tup (pv 0) pe_int (fun _ _ => rfl)) pe_str (nomark _)) (C8.pe_c c_frames_in hr (by decide) (by rfl) (pa_cons (pv 0) pa_nil)) (pe_op op_sub pe_int (C8.pe_c c_frames_in hr (by decide) (by rfl) (pa_cons (pv 0) pa_nil))))))), ?_⟩
    obtain ⟨a, r, rfl, hrow, hc⟩ := hd.cs
    rcases hc with ⟨k, h⟩ | ⟨k, h⟩ | ⟨k, u, hu, h⟩
    · refine ⟨_, rfl, a, _, _, _, rfl, rfl, sqT h, atI_nat (j := 0) rfl, rfl, _, rfl, iteC (decide_eq_false s_pv) ?_⟩
      refine ⟨_, rfl, a, _, _, _, rfl, rfl, sqT h, atI_nat (j := 0) rfl, rfl, _, rfl, iteB (decide_eq_true rfl) ?_⟩
      exact ⟨_, rfl, _, d, rfl, hd, vd, fun H1 s1 => qi (by simp [Dd.nn, Dd.o, k]) (q _ s1)⟩
    · refine ⟨_, rfl, a, _, _, _, rfl, rfl, sqT h, atI_nat (j := 0) rfl, rfl, _, rfl, iteC (decide_eq_false s_ov) ?_⟩
      refine ⟨_, rfl, a, _, _, _, rfl, rfl, sqT h, atI_nat (j := 0) rfl, rfl, _, rfl, iteC (decide_eq_false s_op) ?_⟩
      exact ⟨_, rfl, _, d, rfl, hd, vd, fun H1 s1 => ⟨_, _, rfl, rfl, qi (by simp [Dd.nn, Dd.o, k]) (q _ s1)⟩⟩
    · refine ⟨_, rfl, a, _, _, _, rfl, rfl, sqT h, atI_nat (j := 0) rfl, rfl, _, rfl, iteB (decide_eq_true rfl) ?_⟩
      exact qi (by simp [Dd.nn, Dd.o, k]) (q _ (Same.refl _))
def spAtPlace : Sp := fun vs H Q _ => ∃ (v : V) (d : Ds) (x : Nat), vs = [v, .int (x : Int)] ∧ IsDd H v d ∧ ∀ H' v', Same H H' → IsDd H' v' { d with a := x } → Q v' H'
theorem ok_at_place (D : DefF K mg "at_place" s_at_place) : C8.Cal P w K mg base 1 "at_place" spAtPlace [] := by
  refine D.cal sc_at_place (fun _ _ _ _ _ _ us hl => match us, hl with | [_, _], _ => rfl) (fun vs H Q E h => ?_) (fun f cdv A outer s H vs Q E hr h => ?_)
  · obtain ⟨_, _, _, rfl, _⟩ := h
    rfl
  · obtain ⟨v, d, x, rfl, ⟨a, r, rest, rfl, h, hrow, hc⟩, q⟩ := h
    have nd := sc_at_place.nd
    refine ⟨_, (pss_one (ps_ret (pe_op op_catA (pe_op op_catA (pe_slice sl_tupA (pv 0) po_none (po_some pe_int)) (pe_tup (pa_cons (pv 1) pa_nil))) (pe_slice sl_tupA (pv 0) (po_some pe_int) po_none)))), ?_⟩
    have hrest : rest.length ≤ 1 := by
      rcases hc with ⟨_, rfl⟩ | ⟨_, u, rfl, _⟩ <;> simp
    -- deed[:1]
    refine ⟨_, rfl, 1, rfl, a, _, rfl, sqT h, fun z => ?_, fun _ p hp => ?_⟩
    · have z2 := z.2
      rw [show HT.sIx _ _ (some 1) = min 1 _ from HT.sIx_nat _ _ 1] at z2
      simp only [List.length_cons] at z2
      omega
    have e1 : cutV (V.str (kw d.k) :: V.int (d.a : Int) :: r :: rest) none (some 1) = [V.str (kw d.k)] := by
      unfold cutV
      rw [show HT.sIx _ _ (some 1) = min 1 _ from HT.sIx_nat _ _ 1, HT.sIx_none]
      rw [show min 1 (V.str (kw d.k) :: V.int (d.a : Int) :: r :: rest).length = 1 by simp only [List.length_cons]; omega]
      rfl
    rw [e1]
    have s1 := sm_new (o := .tup [V.str (kw d.k)]) hp
    -- (place,)
    refine ⟨_, rfl, by show 1 ≤ sizeLine; decide, fun t ht => ?_⟩
    have s2 := sm_new (o := .tup [V.int (x : Int)]) ht
    refine catT (s2 _ _ upd_same) upd_same (List.cons_ne_nil _ _) (List.cons_ne_nil _ _) (by show 2 ≤ 90000; decide) fun c H3 s3 h3 => ?_
    have t3 := (s1.trans s2).trans s3
    -- deed[2:]
    refine ⟨_, rfl, 2, rfl, a, _, rfl, sqT (t3 _ _ h), fun z => ?_, fun _ p2 hp2 => ?_⟩
    · have z1 := z.1
      rw [show HT.sIx _ _ (some 2) = min 2 _ from HT.sIx_nat _ _ 2] at z1
      simp only [List.length_cons] at z1
      omega
    have e2 : cutV (V.str (kw d.k) :: V.int (d.a : Int) :: r :: rest) (some 2) none = r :: rest := by
      unfold cutV
      rw [show HT.sIx _ _ (some 2) = min 2 _ from HT.sIx_nat _ _ 2, HT.sIx_none]
      rw [show min 2 (V.str (kw d.k) :: V.int (d.a : Int) :: r :: rest).length = 2 by simp only [List.length_cons]; omega]
      show (r :: rest).take (rest.length + 1 + 1 + 1 - 2) = r :: rest
      exact List.take_of_length_le (by simp only [List.length_cons]; omega)
    rw [e2]
    have s4 := sm_new (o := .tup (r :: rest)) hp2
    refine catT (s4 _ _ h3) upd_same (List.cons_ne_nil _ _) (List.cons_ne_nil _ _) (by simp only [List.length_cons, List.length_append, List.length_nil]; omega) fun c2 H5 s5 h5 => ?_
    have t5 := (t3.trans s4).trans s5
    refine q _ _ t5 ⟨c2, r, rest, rfl, h5, hrow.sm t5, ?_⟩
    rcases hc with hc | ⟨k, u, e, hu⟩
    · exact .inl hc
    · exact .inr ⟨k, u, e, hu.sm t5⟩
theorem cutV_nat (xs : List V) (i n : Nat) (h : i + n ≤ xs.length) : cutV xs (some (i : Int)) (some ((i : Int) + (n : Int))) = (xs.drop i).take n := by
  unfold cutV
  rw [show (i : Int) + (n : Int) = ((i + n : Nat) : Int) by omega, HT.sIx_nat, HT.sIx_nat]
  rw [show min i xs.length = i by omega, show min (i + n) xs.length = i + n by omega, show i + n - i = n by omega]
def spShows : Sp := fun vs H Q _ => ∃ (v u : V) (i : Nat) (ps ms : List Ps), vs = [v, .int (i : Int), u] ∧ IsRow H v ps ∧ IsRow H u ms ∧ VRw ps ∧ VRw ms ∧ i + len ms ≤ len ps ∧ ((film ps).drop i).take (len ms) = film ms ∧ ∀ H', Same H H' → Q (.bl true) H'
theorem ok_shows (D : DefF K mg "shows" s_shows) (T : Tx mg) (c_film_of : C8.Cal P w K mg base 2 "film_of" spFilmOf []) : C8.Cal P w K mg base 3 "shows" spShows [] := by
  refine D.cal sc_shows (fun _ _ _ _ _ _ us hl => match us, hl with | [_, _, _], _ => rfl) (fun vs H Q E h => ?_) (fun f cdv A outer s H vs Q E hr h => ?_)
  · obtain ⟨_, _, _, _, _, rfl, _⟩ := h
    rfl
  · obtain ⟨v, u, i, ps, ms, rfl, hp, hm, vr, vm, hi, he, q⟩ := h
    have nd := sc_shows.nd
    refine ⟨_, (pss_cons (ps_set (i := 3) nd rfl (Or.inl rfl) (C8.pe_c c_film_of hr (by decide) (by rfl) (pa_cons (pv 2) pa_nil)))
      (pss_one (ps_ret (pe_cmpR (op_eqD hr.units) (pe_slice sl_list (C8.pe_c c_film_of hr (by decide) (by rfl) (pa_cons (pv 0) pa_nil)) (po_some (pv 1)) (po_some (pe_op op_add (pv 1) (pe_callB call_len_seq (by rfl) T.b_len bt_len (pa_cons (pv 3) pa_nil))))) (pv 3) (nomark _))))), ?_⟩
    refine ⟨_, rfl, u, ms, rfl, hm, vm, fun H1 v1 s1 f1 => ?_⟩
    refine ⟨_, rfl, v, ps, rfl, hp.sm s1, vr, fun H2 v2 s2 f2 => ?_⟩
    obtain ⟨l, ys, rfl, hl, hy⟩ := f1.sm s2
    obtain ⟨l2, xs, rfl, hl2, hx⟩ := f2
    refine ⟨_, rfl, _, rfl, _, rfl, _, rfl, l, ys, rfl, .inl (sqL hl), _, _, rfl, rfl, _, rfl, l2, xs, rfl, sqL hl2, fun t ht => ?_⟩
    have e1 := hx.len
    have e2 := hy.len
    rw [film_len] at e1 e2
    have s3 := sm_new (o := .lst (cutV xs (some (i : Int)) (some ((i : Int) + (ys.length : Int))))) ht
    have fc : IsFilm (upd H2 t (.lst (cutV xs (some (i : Int)) (some ((i : Int) + (ys.length : Int)))))) (.ref t) (film ms) := by
      have h4 : All2 (IsFr H2) (cutV xs (some (i : Int)) (some ((i : Int) + (ys.length : Int)))) (film ms) := by
        rw [cutV_nat xs i ys.length (by omega), e2]
        rw [← he]
        exact (hx.drop i).take (len ms)
      exact ⟨t, _, rfl, upd_same, h4.mono fun _ _ z => z.ts (ts_of s3)⟩
    have fd : IsFilm (upd H2 t (.lst (cutV xs (some (i : Int)) (some ((i : Int) + (ys.length : Int)))))) (.ref l) (film ms) := (show IsFilm H2 (.ref l) (film ms) from ⟨l, ys, rfl, hl, hy⟩).sm s3
    refine ⟨_, rfl, _, _, fc.dp, fd.dp, film_sh (VPcs.frames vm.1), film_sh (VPcs.frames vm.1), ?_⟩
    exact qb (by rw [film_eqv]; exact decide_eq_true rfl) (q _ ((s1.trans s2).trans s3))
def spMarkAhead : Sp := fun vs H Q _ => ∃ (v : V) (d : Ds), vs = [v] ∧ IsDd H v d ∧ VDx d ∧ ∀ H' t, Same H H' → H' t = some (.tup [.int (d.a : Int), .int ((d.a : Int) + (d.o : Int))]) → Q (.ref t) H'
theorem ok_mark_ahead (D : DefF K mg "mark_ahead" s_mark_ahead) (c_frames_in : C8.Cal P w K mg base 2 "frames_in" spFramesIn []) : C8.Cal P w K mg base 3 "mark_ahead" spMarkAhead [] := by
  refine D.cal sc_mark_ahead (fun _ _ _ _ _ _ us hl => match us, hl with | [_], _ => rfl) (fun vs H Q E h => ?_) (fun f cdv A outer s H vs Q E hr h => ?_)
  · obtain ⟨_, _, rfl, _⟩ := h
    rfl
  · obtain ⟨v, d, rfl, hd, vd, q⟩ := h
    have nd := sc_mark_ahead.nd
    refine ⟨_, (pss_cons (ps_if (pt_cmpR op_eq (pe_ix ix_tup (pv 0) pe_int (fun _ _ => rfl)) pe_str (nomark _)) (pss_one (ps_ret (pe_tup (pa_cons (pe_ix ix_tup (pv 0) pe_int (fun _ _ => rfl)) (pa_cons (pe_ix ix_tup (pv 0) pe_int (fun _ _ => rfl)) pa_nil))))) pss_nil)
      (pss_one (ps_ret (pe_tup (pa_cons (pe_ix ix_tup (pv 0) pe_int (fun _ _ => rfl)) (pa_cons (pe_op op_add (pe_ix ix_tup (pv 0) pe_int (fun _ _ => rfl)) (C8.pe_c c_frames_in hr (by decide) (by rfl) (pa_cons (pv 0) pa_nil))) pa_nil)))))), ?_⟩
    obtain ⟨a, r, rfl, hrow, hc⟩ := hd.cs
    rcases hc with ⟨k, h⟩ | ⟨k, h⟩ | ⟨k, u, hu, h⟩
    · refine ⟨_, rfl, a, _, _, _, rfl, rfl, sqT h, atI_nat (j := 0) rfl, rfl, _, rfl, iteB (decide_eq_true rfl) ?_⟩
      refine ⟨_, rfl, a, _, _, _, rfl, rfl, sqT h, atI_nat (j := 1) rfl, _, rfl, a, _, _, _, rfl, rfl, sqT h, atI_nat (j := 1) rfl, by show 2 ≤ sizeLine; decide, fun t ht => ?_⟩
      refine q _ t (sm_new ht) ?_
      rw [upd_same]
      simp [Dd.o, k]
    · refine ⟨_, rfl, a, _, _, _, rfl, rfl, sqT h, atI_nat (j := 0) rfl, rfl, _, rfl, iteC (decide_eq_false s_op) ?_⟩
      refine ⟨_, rfl, a, _, _, _, rfl, rfl, sqT h, atI_nat (j := 1) rfl, _, rfl, a, _, _, _, rfl, rfl, sqT h, atI_nat (j := 1) rfl, _, rfl, _, d, rfl, hd, vd, fun H1 s1 => ?_⟩
      refine ⟨_, _, rfl, rfl, by show 2 ≤ sizeLine; decide, fun t ht => ?_⟩
      refine q _ t (s1.trans (sm_new ht)) ?_
      rw [upd_same]
      simp [Dd.o, k]
    · refine ⟨_, rfl, a, _, _, _, rfl, rfl, sqT h, atI_nat (j := 0) rfl, rfl, _, rfl, iteC (decide_eq_false s_vp) ?_⟩
      refine ⟨_, rfl, a, _, _, _, rfl, rfl, sqT h, atI_nat (j := 1) rfl, _, rfl, a, _, _, _, rfl, rfl, sqT h, atI_nat (j := 1) rfl, _, rfl, _, d, rfl, hd, vd, fun H1 s1 => ?_⟩
      refine ⟨_, _, rfl, rfl, by show 2 ≤ sizeLine; decide, fun t ht => ?_⟩
      refine q _ t (s1.trans (sm_new ht)) ?_
      rw [upd_same]
      simp [Dd.o, k]
def spDoneOn : Sp := fun vs H Q _ => ∃ (v u : V) (ps : List Ps) (d : Ds) (F : List Fs), vs = [v, u] ∧ IsRow H v ps ∧ VRw ps ∧ IsDd H u d ∧ VDx d ∧ Fit (film ps) d.G F ∧ F.length ≤ 3000 ∧ ∀ H' v' R, Same H H' → IsRow H' v' R → VRw R → film R = F → Q v' H'
theorem ok_done_on (D : DefF K mg "done_on" s_done_on) (c_length_of : C8.Cal P w K mg base 1 "length_of" spLengthOf []) (c_least : C8.Cal P w K mg base 6 "least" spLeast []) (c_put_in : C8.Cal P w K mg base 5 "put_in" spPutIn []) (c_shows : C8.Cal P w K mg base 3 "shows" spShows [])
    (c_without : C8.Cal P w K mg base 2 "without" spWithout []) (c_frames_in : C8.Cal P w K mg base 2 "frames_in" spFramesIn []) (c_laid_over : C8.Cal P w K mg base 5 "laid_over" spLaidOver []) : C8.Cal P w K mg base 7 "done_on" spDoneOn [] := by
  refine D.cal sc_done_on (fun _ _ _ _ _ _ us hl => match us, hl with | [_, _], _ => rfl) (fun vs H Q E h => ?_) (fun f cdv A outer s H vs Q E hr h => ?_)
  · obtain ⟨_, _, _, _, _, rfl, _⟩ := h
    rfl
  · obtain ⟨v, u, ps, d, F, rfl, hp, vr, hd, vd, ft, hz, q⟩ := h
    have nd := sc_done_on.nd
    refine ⟨_, (pss_cons (ps_if (pt_cmpR op_gt (pe_ix ix_tup (pv 1) pe_int (fun _ _ => rfl)) (C8.pe_c c_length_of hr (by decide) (by rfl) (pa_cons (pv 0) pa_nil)) (nomark _)) (pss_one ps_never) pss_nil)
      (pss_cons (ps_if (pt_cmpR op_eq (pe_ix ix_tup (pv 1) pe_int (fun _ _ => rfl)) pe_str (nomark _)) (pss_one (ps_ret (C8.pe_c c_least hr (by decide) (by rfl) (pa_cons (C8.pe_c c_put_in hr (by decide) (by rfl) (pa_cons (pv 0) (pa_cons (pe_ix ix_tup (pv 1) pe_int (fun _ _ => rfl)) (pa_cons (pe_ix ix_tup (pv 1) pe_int (fun _ _ => rfl)) pa_nil)))) pa_nil)))) pss_nil)
      (pss_cons (ps_if (pt_not (pt_val (C8.pe_c c_shows hr (by decide) (by rfl) (pa_cons (pv 0) (pa_cons (pe_ix ix_tup (pv 1) pe_int (fun _ _ => rfl)) (pa_cons (pe_ix ix_tup (pv 1) pe_int (fun _ _ => rfl)) pa_nil)))))) (pss_one ps_never) pss_nil)
      (pss_cons (ps_if (pt_cmpR op_eq (pe_ix ix_tup (pv 1) pe_int (fun _ _ => rfl)) pe_str (nomark _)) (pss_one (ps_ret (C8.pe_c c_least hr (by decide) (by rfl) (pa_cons (C8.pe_c c_without hr (by decide) (by rfl) (pa_cons (pv 0) (pa_cons (pe_ix ix_tup (pv 1) pe_int (fun _ _ => rfl)) (pa_cons (C8.pe_c c_frames_in hr (by decide) (by rfl) (pa_cons (pv 1) pa_nil)) pa_nil)))) pa_nil)))) pss_nil)
      (pss_one (ps_ret (C8.pe_c c_least hr (by decide) (by rfl) (pa_cons (C8.pe_c c_laid_over hr (by decide) (by rfl) (pa_cons (pv 0) (pa_cons (pe_ix ix_tup (pv 1) pe_int (fun _ _ => rfl)) (pa_cons (pe_ix ix_tup (pv 1) pe_int (fun _ _ => rfl)) pa_nil)))) pa_nil)))))))), ?_⟩
    obtain ⟨a, r, rfl, hrow, hc⟩ := hd.cs
    have hs := VRow.short vr
    have h3 := vr.2
    have at_ : d.a + d.old.length ≤ (film ps).length := ft.at_
    have hf := film_len ps
    obtain ⟨e1, e2⟩ := ft.app
    have e1 : F = (film ps).take d.a ++ d.new ++ (film ps).drop (d.a + d.old.length) := e1
    have e2 : ((film ps).drop d.a).take d.old.length = d.old := e2
    have last : ∀ (R : List Ps) H1 v1, Same H H1 → IsRow H1 v1 R → VRw R → film R = F → spLeast [v1] H1 Q E0 := fun R H1 v1 s1 r1 vR eR => ⟨v1, R, rfl, r1, vR, fun H2 v2 s2 r2 => q _ _ _ (s1.trans s2) r2 (least_good nm_blk (VPcs.frames vR.1) (by rw [eR]; exact hz)) (by rw [least_film, eR])⟩
    rcases hc with ⟨k, h⟩ | ⟨k, h⟩ | ⟨k, u, hu, h⟩
    · have eo : d.old = [] := by simp [Dd.old, k]
      have en : d.new = film d.p := by simp [Dd.new, k]
      rw [eo] at e1 at_
      rw [en] at e1
      have lF := congrArg List.length e1
      simp only [List.length_append, List.length_take, List.length_drop, film_len, List.length_nil] at lF
      simp only [List.length_nil] at at_
      refine ⟨_, rfl, a, _, _, _, rfl, rfl, sqT h, atI_nat (j := 1) rfl, _, rfl, v, ps, rfl, hp, by omega, fun H1 s1 => ⟨_, _, rfl, rfl, _, rfl, iteC (decide_eq_false (by omega)) ?_⟩⟩
      have h1 := s1 _ _ h
      refine ⟨_, rfl, a, _, _, _, rfl, rfl, sqT h1, atI_nat (j := 0) rfl, rfl, _, rfl, iteB (decide_eq_true rfl) ?_⟩
      refine ⟨_, rfl, _, rfl, a, _, _, _, rfl, rfl, sqT h1, atI_nat (j := 1) rfl, _, rfl, a, _, _, _, rfl, rfl, sqT h1, atI_nat (j := 2) rfl, v, r, d.a, ps, d.p, rfl, hp.sm s1, hrow.sm s1, vr, vd.p.row, by omega, by omega, fun H2 v2 R s2 r2 vR eR => ?_⟩
      exact last R H2 v2 (s1.trans s2) r2 vR (by rw [eR, e1]; rfl)
    · have eo : d.old = film d.p := by simp [Dd.old, k]
      have en : d.new = [] := by simp [Dd.new, k]
      rw [eo, film_len] at e1 e2 at_
      rw [en] at e1
      refine ⟨_, rfl, a, _, _, _, rfl, rfl, sqT h, atI_nat (j := 1) rfl, _, rfl, v, ps, rfl, hp, by omega, fun H1 s1 => ⟨_, _, rfl, rfl, _, rfl, iteC (decide_eq_false (by omega)) ?_⟩⟩
      have h1 := s1 _ _ h
      refine ⟨_, rfl, a, _, _, _, rfl, rfl, sqT h1, atI_nat (j := 0) rfl, rfl, _, rfl, iteC (decide_eq_false s_op) ?_⟩
      refine ⟨_, rfl, _, rfl, a, _, _, _, rfl, rfl, sqT h1, atI_nat (j := 1) rfl, _, rfl, a, _, _, _, rfl, rfl, sqT h1, atI_nat (j := 2) rfl, v, r, d.a, ps, d.p, rfl, hp.sm s1, hrow.sm s1, vr, vd.p.row, by omega, e2, fun H2 s2 => ⟨true, rfl, iteC rfl ?_⟩⟩
      have t2 := s1.trans s2
      have h2 := t2 _ _ h
      refine ⟨_, rfl, a, _, _, _, rfl, rfl, sqT h2, atI_nat (j := 0) rfl, rfl, _, rfl, iteB (decide_eq_true rfl) ?_⟩
      refine ⟨_, rfl, _, rfl, a, _, _, _, rfl, rfl, sqT h2, atI_nat (j := 1) rfl, _, rfl, _, d, rfl, hd.sm t2, vd, fun H3 s3 => ?_⟩
      have t3 := t2.trans s3
      refine ⟨v, d.a, len d.p, ps, rfl, hp.sm t3, vr, by omega, fun H4 v4 R s4 r4 vR eR => ?_⟩
      exact last R H4 v4 (t3.trans s4) r4 vR (by rw [eR, e1, List.append_nil])
    · obtain ⟨vq, eq⟩ := vd.q k
      have eo : d.old = film d.p := by simp [Dd.old, k]
      have en : d.new = film d.q := by simp [Dd.new, k]
      rw [eo, film_len] at e1 e2 at_
      rw [en] at e1
      refine ⟨_, rfl, a, _, _, _, rfl, rfl, sqT h, atI_nat (j := 1) rfl, _, rfl, v, ps, rfl, hp, by omega, fun H1 s1 => ⟨_, _, rfl, rfl, _, rfl, iteC (decide_eq_false (by omega)) ?_⟩⟩
      have h1 := s1 _ _ h
      refine ⟨_, rfl, a, _, _, _, rfl, rfl, sqT h1, atI_nat (j := 0) rfl, rfl, _, rfl, iteC (decide_eq_false s_vp) ?_⟩
      refine ⟨_, rfl, _, rfl, a, _, _, _, rfl, rfl, sqT h1, atI_nat (j := 1) rfl, _, rfl, a, _, _, _, rfl, rfl, sqT h1, atI_nat (j := 2) rfl, v, r, d.a, ps, d.p, rfl, hp.sm s1, hrow.sm s1, vr, vd.p.row, by omega, e2, fun H2 s2 => ⟨true, rfl, iteC rfl ?_⟩⟩
      have t2 := s1.trans s2
      have h2 := t2 _ _ h
      refine ⟨_, rfl, a, _, _, _, rfl, rfl, sqT h2, atI_nat (j := 0) rfl, rfl, _, rfl, iteC (decide_eq_false s_vo) ?_⟩
      refine ⟨_, rfl, _, rfl, a, _, _, _, rfl, rfl, sqT h2, atI_nat (j := 1) rfl, _, rfl, a, _, _, _, rfl, rfl, sqT h2, atI_nat (j := 3) rfl, v, u, d.a, ps, d.q, rfl, hp.sm t2, hu.sm t2, vr, vq.row, by omega, fun H4 v4 R s4 r4 vR eR => ?_⟩
      exact last R H4 v4 (t2.trans s4) r4 vR (by rw [eR, e1, eq])
end
end K62
/-! K62, the walk, sixth part: lists of deeds, clashes. -/
namespace K62
open PySem PySem.Spec PyProof.Rows L2
abbrev VDxs (ds : List Ds) : Prop := VDds Nm ("" : Str) ds
section
variable {P : Program} {w : World} {K : PySem.W.Frag} {mg : Str → Option Value} {base : Heap}
def spNeedDeeds : Sp := fun vs H Q _ => ∃ (v : V) (ds : List Ds), vs = [v] ∧ IsDds H v ds ∧ VDxs ds ∧ ds.length ≤ 1000 ∧ ∀ H', Same H H' → Q .non H'
theorem ok_need_deeds (D : DefF K mg "need_deeds" s_need_deeds) (T : Tx mg) (c_is_deed : C8.Cal P w K mg base 5 "is_deed" spIsDeed []) : C8.Cal P w K mg base 6 "need_deeds" spNeedDeeds [] := by
  refine D.cal sc_need_deeds (fun _ _ _ _ _ _ us hl => match us, hl with | [_], _ => rfl) (fun vs H Q E h => ?_) (fun f cdv A outer s H vs Q E hr h => ?_)
  · obtain ⟨_, _, rfl, _⟩ := h
    rfl
  · obtain ⟨_, ds, rfl, ⟨a, xs, rfl, hp, ha⟩, vd, hl, q⟩ := h
    have nd := sc_need_deeds.nd
    refine ⟨_, (pss_one (ps_if (PW.pt (pw_or (pt_not (pt_val (pe_callB call_isi (by rfl) T.b_isinstance bt_isinstance (pa_cons (pv 0) (pa_cons (pe_bltn (v := .ty "list") (by rfl) T.b_list bt_list rfl) pa_nil))))) (pw_or1 (pt_not (pt_val (pe_callB (cr_all rfl) (by rfl) T.b_all bt_all (pa_cons (pe_lc (own := [("deed", 1)]) (g := gName 1) rfl nd (pi_list (pv 0)) (blkOk_by (N := N_need_deeds) (sc := defScope s_need_deeds) (by decide +kernel)) (fun _ _ _ _ _ => pg_name (i := 1) nd rfl (Or.inl rfl)) (fun _ _ _ _ _ => pts_nil) (fun _ _ _ _ _ => (C8.pe_c c_is_deed hr (by decide) (by rfl) (pa_cons (pv 1) pa_nil)))) pa_nil))))))) (pss_one ps_never) pss_nil)), ?_⟩
    refine ⟨_, rfl, _, _, _, _, true, rfl, .ty "list", ty_l hp, kit_ty kit_ll, true, rfl, iteC rfl ?_⟩
    refine ⟨_, rfl, a, rfl, ⟨xs, sqL hp⟩, fun D hD => ?_⟩
    refine lcw (walk_list (xs := xs)) (R := fun _ v b => v = V.bl b) mEx (List.replicate ds.length true) (by rw [List.length_replicate, ha.len]) hD (by rw [ha.len]; omega) (fun H' s' => sqL (s' _ _ hp)) (fun i b x H0 H1 hi s0 y Q k => ?_) (fun H1 ys s1 h1 h2 => ?_)
    · obtain ⟨rfl, hx⟩ := y
      obtain ⟨d, ed, hd⟩ := ha.get hx
      have hb : b = true := (List.mem_replicate.mp (List.mem_of_getElem? hi)).2
      subst hb
      exact ⟨rfl, _, rfl, x, d, rfl, hd.sm s0, vd d (List.mem_of_getElem? ed), fun H2 s2 => k _ _ s2 rfl⟩
    · have e := all2_map (f := V.bl) h2
      exact ⟨D, _, rfl, sqL (e ▸ h1), _, rfl, iteC (by simp) (q _ s1)⟩
theorem FitL.bound {α : Type} {n : Nat} : ∀ {gs : List (G α)} {l r : List α}, FitL l gs r → (∀ g ∈ gs, g.n.length ≤ n) → r.length ≤ l.length + n * gs.length
  | [], l, r, h, _ => by
    have h : l = r := h
    rw [h]
    omega
  | g :: gs, l, r, ⟨m, h1, h2⟩, hn => by
    have e := h1.len
    have e2 := FitL.bound h2 fun g hg => hn g (List.mem_cons_of_mem _ hg)
    have e3 := hn g List.mem_cons_self
    rw [List.length_cons, Nat.mul_add, Nat.mul_one]
    omega
theorem VDd.new_le {d : Ds} (v : VDx d) : d.G.n.length ≤ 100 := by
  have h := v.ss.2.2
  have h : d.nn = d.G.n.length := h
  rw [← h]
  exact v.nle
def spAllDone : Sp := fun vs H Q _ => ∃ (v u : V) (ps : List Ps) (ds : List Ds) (F : List Fs), vs = [v, u] ∧ IsRow H v ps ∧ VRw ps ∧ IsDds H u ds ∧ VDxs ds ∧ FitL (film ps) (ds.map Dd.G) F ∧ len ps + 100 * ds.length ≤ 3000 ∧
  ∀ H' v' R, Same H H' → IsRow H' v' R → VRw R → film R = F → Q v' H'
theorem ok_all_done (D : DefF K mg "all_done" s_all_done) (c_done_on : C8.Cal P w K mg base 7 "done_on" spDoneOn []) : C8.Cal P w K mg base 8 "all_done" spAllDone [] := by
  refine D.cal sc_all_done (fun _ _ _ _ _ _ us hl => match us, hl with | [_, _], _ => rfl) (fun vs H Q E h => ?_) (fun f cdv A outer s H vs Q E hr h => ?_)
  · obtain ⟨_, _, _, _, _, rfl, _⟩ := h
    rfl
  · obtain ⟨v, _, ps, ds, F, rfl, hp, vr, ⟨a, xs, rfl, hl, ha⟩, vd, ft, hz, q⟩ := h
    have nd := sc_all_done.nd
    have hlen := ha.len
    refine ⟨_, (pss_cons (ps_for PassesOwn.never rfl (pi_list (pv 1)) (pg_name (i := 2) nd rfl (Or.inl rfl)) (pss_one (ps_set (i := 0) nd rfl (Or.inl rfl) (C8.pe_c c_done_on hr (by decide) (by rfl) (pa_cons (pv 0) (pa_cons (pv 2) pa_nil))))))
      (pss_one (ps_ret (pv 0)))), ?_⟩
    refine ⟨_, rfl, a, rfl, ⟨xs, sqL hl⟩, for_it (walk_list (xs := xs)) (fun i σ H' => ∃ (v' : V) (R : List Ps) (z : Option V), σ = [some v', some (.ref a), z] ∧ Same H H' ∧ IsRow H' v' R ∧ VRw R ∧ FitL (film R) ((ds.drop i).map Dd.G) F ∧ len R + 100 * (ds.length - i) ≤ 3000)
      ⟨v, ps, none, rfl, Same.refl H, hp, vr, ft, hz⟩ ?_ ?_ ?_⟩
    · rintro i σ H' _ ⟨_, _, _, rfl, s1, _⟩
      exact sqL (s1 _ _ hl)
    · rintro i x σ H1 H2 hi ⟨v', R, z, rfl, s1, r1, vR, ft1, hz1⟩ ⟨rfl, hx⟩
      obtain ⟨d, ed, hd⟩ := ha.get hx
      have vdd := vd d (List.mem_of_getElem? ed)
      have edr : ds.drop i = d :: ds.drop (i + 1) := by
        rw [List.drop_eq_getElem_cons (by omega)]
        have : ds[i]'(by omega) = d := by
          rw [List.getElem?_eq_getElem (by omega)] at ed
          exact Option.some.inj ed
        rw [this]
      rw [edr] at ft1
      obtain ⟨M, f1, f2⟩ := ft1
      have e1 := f1.len
      have e2 := vdd.new_le
      have e3 := film_len R
      have hM : M.length ≤ len R + 100 := by omega
      refine ⟨_, rfl, _, rfl, v', x, R, d, M, rfl, r1, vR, hd.sm s1, vdd, f1, by omega, fun H3 v3 R3 s3 r3 vR3 eR3 => ?_⟩
      refine ⟨v3, R3, some x, rfl, s1.trans s3, r3, vR3, by rw [eR3]; exact f2, ?_⟩
      have e4 := film_len R3
      rw [eR3] at e4
      omega
    · rintro σ H' ⟨v', R, z, rfl, s1, r1, vR, ft1, hz1⟩
      rw [ha.len, List.drop_length] at ft1
      have ft1 : film R = F := ft1
      exact ⟨_, rfl, q _ _ _ s1 r1 vR ft1⟩
theorem clash_eq (d e : Ds) : clash d e = if d.o = 0 ∧ e.o = 0 then decide (d.a = e.a) else decide (d.a < e.a + e.o ∧ e.a < d.a + d.o) := rfl
def spDoClash : Sp := fun vs H Q _ => ∃ (v u : V) (d e : Ds), vs = [v, u] ∧ IsDd H v d ∧ IsDd H u e ∧ VDx d ∧ VDx e ∧ ∀ H', Same H H' → Q (.bl (clash d e)) H'
theorem ok_do_clash (D : DefF K mg "do_clash" s_do_clash) (c_mark_ahead : C8.Cal P w K mg base 3 "mark_ahead" spMarkAhead []) : C8.Cal P w K mg base 4 "do_clash" spDoClash [] := by
  refine D.cal sc_do_clash (fun _ _ _ _ _ _ us hl => match us, hl with | [_, _], _ => rfl) (fun vs H Q E h => ?_) (fun f cdv A outer s H vs Q E hr h => ?_)
  · obtain ⟨_, _, _, _, rfl, _⟩ := h
    rfl
  · obtain ⟨v, u, d, e, rfl, hd, he, vd, ve, q⟩ := h
    have nd := sc_do_clash.nd
    refine ⟨_, (pss_cons (ps_asg (C8.pe_c c_mark_ahead hr (by decide) (by rfl) (pa_cons (pv 0) pa_nil)) (pg_tup rfl (pgs_cons (pg_name (i := 2) nd rfl (Or.inl rfl)) (pgs_cons (pg_name (i := 3) nd rfl (Or.inl rfl)) pgs_nil))))
      (pss_cons (ps_asg (C8.pe_c c_mark_ahead hr (by decide) (by rfl) (pa_cons (pv 1) pa_nil)) (pg_tup rfl (pgs_cons (pg_name (i := 4) nd rfl (Or.inl rfl)) (pgs_cons (pg_name (i := 5) nd rfl (Or.inl rfl)) pgs_nil))))
      (pss_cons (ps_if (PW.pt (pw_and (pt_cmpR op_eq (pv 2) (pv 3) (nomark _)) (pw_and1 (pt_cmpR op_eq (pv 4) (pv 5) (nomark _))))) (pss_one (ps_ret (pe_cmpR op_eq (pv 2) (pv 4) (nomark _)))) pss_nil)
      (pss_one (ps_ret (pe_and (pe_cmpR op_lt (pv 2) (pv 5) (nomark _)) (pe_one (pe_cmpR op_lt (pv 4) (pv 3) (nomark _))))))))), ?_⟩
    refine ⟨_, rfl, v, d, rfl, hd, vd, fun H1 t s1 ht => ⟨t, _, rfl, sqT ht, rfl, _, _, rfl, _, _, rfl, rfl, ?_⟩⟩
    refine ⟨_, rfl, u, e, rfl, he.sm s1, ve, fun H2 t2 s2 ht2 => ⟨t2, _, rfl, sqT ht2, rfl, _, _, rfl, _, _, rfl, rfl, ?_⟩⟩
    have qq : ∀ b : Bool, b = clash d e → Q (.bl b) H2 := fun b hb => by
      rw [hb]
      exact q _ (s1.trans s2)
    refine ⟨_, rfl, _, rfl, rfl, _, rfl, ?_⟩
    by_cases h1 : d.o = 0
    · refine iteB (decide_eq_true (congrArg V.int (by omega))) ⟨_, rfl, _, rfl, rfl, _, rfl, ?_⟩
      by_cases h2 : e.o = 0
      · refine iteB (decide_eq_true (congrArg V.int (by omega))) ⟨_, rfl, _, rfl, rfl, qq _ ?_⟩
        rw [clash_eq, if_pos ⟨h1, h2⟩]
        by_cases h3 : d.a = e.a
        · rw [decide_eq_true h3, decide_eq_true (congrArg V.int (by omega))]
        · rw [decide_eq_false h3, decide_eq_false fun z => h3 (by injection z with z; omega)]
      · refine iteC (decide_eq_false fun z => h2 (by injection z with z; omega)) ?_
        refine ⟨_, rfl, _, rfl, _, _, rfl, rfl, _, rfl, ?_⟩
        rw [clash_eq, if_neg (fun z => h2 z.2)] at qq
        by_cases h3 : d.a < e.a + e.o
        · refine iteB (decide_eq_true (by omega)) ⟨_, rfl, _, rfl, _, _, rfl, rfl, qq _ ?_⟩
          by_cases h4 : e.a < d.a + d.o
          · rw [decide_eq_true (by omega), decide_eq_true ⟨h3, h4⟩]
          · rw [decide_eq_false (by omega), decide_eq_false fun z => h4 z.2]
        · exact iteC (decide_eq_false (by omega)) (qq _ (by rw [decide_eq_false fun z => h3 z.1]))
    · refine iteC (decide_eq_false fun z => h1 (by injection z with z; omega)) ?_
      refine iteF ?_
      refine ⟨_, rfl, _, rfl, _, _, rfl, rfl, _, rfl, ?_⟩
      rw [clash_eq, if_neg (fun z => h1 z.1)] at qq
      by_cases h3 : d.a < e.a + e.o
      · refine iteB (decide_eq_true (by omega)) ⟨_, rfl, _, rfl, _, _, rfl, rfl, qq _ ?_⟩
        by_cases h4 : e.a < d.a + d.o
        · rw [decide_eq_true (by omega), decide_eq_true ⟨h3, h4⟩]
        · rw [decide_eq_false (by omega), decide_eq_false fun z => h4 z.2]
      · exact iteC (decide_eq_false (by omega)) (qq _ (by rw [decide_eq_false fun z => h3 z.1]))
def spPast : Sp := fun vs H Q _ => ∃ (v u : V) (d e : Ds), vs = [v, u] ∧ IsDd H v d ∧ IsDd H u e ∧ VDx d ∧ VDx e ∧ ∀ H' v', Same H H' → IsDd H' v' (past d e) → Q v' H'
theorem ok_past (D : DefF K mg "past" s_past) (c_mark_ahead : C8.Cal P w K mg base 3 "mark_ahead" spMarkAhead []) (c_at_place : C8.Cal P w K mg base 1 "at_place" spAtPlace []) (c_growth : C8.Cal P w K mg base 3 "growth" spGrowth []) : C8.Cal P w K mg base 4 "past" spPast [] := by
  refine D.cal sc_past (fun _ _ _ _ _ _ us hl => match us, hl with | [_, _], _ => rfl) (fun vs H Q E h => ?_) (fun f cdv A outer s H vs Q E hr h => ?_)
  · obtain ⟨_, _, _, _, rfl, _⟩ := h
    rfl
  · obtain ⟨v, u, d, e, rfl, hd, he, vd, ve, q⟩ := h
    have nd := sc_past.nd
    have hp : past d e = if e.a + e.o ≤ d.a then { d with a := d.a + e.nn - e.o } else d := rfl
    refine ⟨_, (pss_cons (ps_if (pt_cmpR op_le (pe_ix ix_tup (C8.pe_c c_mark_ahead hr (by decide) (by rfl) (pa_cons (pv 1) pa_nil)) pe_int (fun _ _ => rfl)) (pe_ix ix_tup (C8.pe_c c_mark_ahead hr (by decide) (by rfl) (pa_cons (pv 0) pa_nil)) pe_int (fun _ _ => rfl)) (nomark _)) (pss_one (ps_ret (C8.pe_c c_at_place hr (by decide) (by rfl) (pa_cons (pv 0) (pa_cons (pe_op op_add (pe_ix ix_tup (pv 0) pe_int (fun _ _ => rfl)) (C8.pe_c c_growth hr (by decide) (by rfl) (pa_cons (pv 1) pa_nil))) pa_nil))))) pss_nil)
      (pss_one (ps_ret (pv 0)))), ?_⟩
    refine ⟨_, rfl, u, e, rfl, he, ve, fun H1 t s1 ht => ⟨t, _, _, _, rfl, rfl, sqT ht, atI_nat (j := 1) rfl, ?_⟩⟩
    refine ⟨_, rfl, v, d, rfl, hd.sm s1, vd, fun H2 t2 s2 ht2 => ⟨t2, _, _, _, rfl, rfl, sqT ht2, atI_nat (j := 0) rfl, ?_⟩⟩
    have t2 := s1.trans s2
    refine ⟨_, _, rfl, rfl, _, rfl, ?_⟩
    by_cases h : e.a + e.o ≤ d.a
    · rw [if_pos h] at hp
      obtain ⟨a, r, rfl, hrow, hc⟩ := hd.cs
      have h1 : ∃ xs, H a = some (.tup xs) ∧ xs[1]? = some (.int (d.a : Int)) := by
        rcases hc with ⟨_, h⟩ | ⟨_, h⟩ | ⟨_, _, _, h⟩ <;> exact ⟨_, h, rfl⟩
      obtain ⟨xs, hx, hx1⟩ := h1
      refine iteB (decide_eq_true (by omega)) ⟨_, rfl, _, rfl, a, xs, _, _, rfl, rfl, sqT (t2 _ _ hx), atI_nat (j := 1) hx1, ?_⟩
      refine ⟨_, rfl, u, e, rfl, he.sm t2, ve, fun H3 s3 => ?_⟩
      have t3 := t2.trans s3
      refine ⟨_, _, rfl, rfl, .ref a, d, d.a + e.nn - e.o, ?_, hd.sm t3, fun H4 v4 s4 r4 => q _ _ (t3.trans s4) (by rw [hp]; exact r4)⟩
      have ez : (d.a : Int) + ((e.nn : Int) - (e.o : Int)) = ((d.a + e.nn - e.o : Nat) : Int) := by omega
      rw [← ez]
      rfl
    · rw [if_neg h] at hp
      refine iteC (decide_eq_false (by omega)) ⟨_, rfl, q _ _ t2 ?_⟩
      rw [hp]
      exact hd.sm t2
end
end K62
/-! K62, the walk, seventh part: the joiner. -/
namespace K62
open PySem PySem.Spec PyProof.Rows L2
theorem f_lo : ¬ ("left" : Str) = "ones" := by decide +kernel
theorem f_ol : ¬ ("ones" : Str) = "left" := by decide +kernel
theorem f_to : ¬ ("others" : Str) = "ones" := by decide +kernel
theorem f_tl : ¬ ("others" : Str) = "left" := by decide +kernel
theorem f_ot : ¬ ("ones" : Str) = "others" := by decide +kernel
theorem f_lt : ¬ ("left" : Str) = "others" := by decide +kernel
theorem f_jo : ¬ ("join" : Str) = "ones" := by decide +kernel
theorem f_jl : ¬ ("join" : Str) = "left" := by decide +kernel
theorem f_jt : ¬ ("join" : Str) = "others" := by decide +kernel
/-- a joiner's fields -/
def jf (l1 l2 l3 : Addr) : List (Str × V) := putF "others" (.ref l3) (putF "left" (.ref l2) (putF "ones" (.ref l1) []))
theorem jf_ones (l1 l2 l3 : Addr) : (jf l1 l2 l3).lookup ("ones" : Str) = some (.ref l1) := by
  unfold jf
  rw [lookup_putF, if_neg f_ot, lookup_putF, if_neg f_ol, lookup_putF, if_pos rfl]
theorem jf_left (l1 l2 l3 : Addr) : (jf l1 l2 l3).lookup ("left" : Str) = some (.ref l2) := by
  unfold jf
  rw [lookup_putF, if_neg f_lt, lookup_putF, if_pos rfl]
theorem jf_others (l1 l2 l3 : Addr) : (jf l1 l2 l3).lookup ("others" : Str) = some (.ref l3) := by
  unfold jf
  rw [lookup_putF, if_pos rfl]
theorem jf_join (l1 l2 l3 : Addr) : (jf l1 l2 l3).lookup ("join" : Str) = none := by
  unfold jf
  rw [lookup_putF, if_neg f_jt, lookup_putF, if_neg f_jl, lookup_putF, if_neg f_jo]
  all_goals rfl
theorem jf_eq (l1 l2 l3 : Addr) : jf l1 l2 l3 = ([("ones", V.ref l1), ("left", V.ref l2), ("others", V.ref l3)] : List (Str × V)) := by
  unfold jf
  simp only [putF, if_neg f_ol, if_neg f_ot, if_neg f_lt]
theorem jf_put (l1 l2 l3 m : Addr) : putF "ones" (.ref m) (jf l1 l2 l3) = jf m l2 l3 := by
  rw [jf_eq, jf_eq]
  simp only [putF, if_true]
theorem jf_len (l1 l2 l3 : Addr) : (jf l1 l2 l3).length < 1000 := by
  rw [jf_eq]
  show 3 < 1000
  decide
structure JTx (K : PySem.W.Frag) (C : Addr) : Prop where
  cl : Cls K C
  n1 : NoAttr K C "ones"
  n2 : NoAttr K C "left"
  n3 : NoAttr K C "others"
/-- a method of the class -/
structure DefM (K : PySem.W.Frag) (m qual : Str) (st : Stmt) (f : Addr) : Prop where
  ex : ∃ fd : FuncData, FunD K m qual (defArgs st) (defBody st) (defScope st) [] [] f fd
section
variable {P : Program} {w : World} {K : PySem.W.Frag} {mg : Str → Option Value} {base : Heap}
theorem DefM.fn {m qual : Str} {st : Stmt} {N ps : List Str} {k : Nat} {sp : Sp} {f : Addr} (D : DefM K m qual st f) (S : FnScope N ps (defScope st))
    (hb : ∀ (kV doc pm : Value) (an : Option Addr) (cdv ct : Value) (us : List Value), us.length = ps.length → bindArgs (PySem.W.fnOf m qual (defArgs st) (defBody st) (defScope st) .none kV doc pm an cdv ct) ⟨us, []⟩ = pure (ps.zip us))
    (len : ∀ vs H Q E, sp vs H Q E → vs.length = ps.length)
    (hbody : ∀ (cdv : Value) (A : Around) (outer : List Env) (s : Shared) (H : Hp) (vs : List V) (Q : VK) (E : XK), Room k (A.deeper (envOfC qual (defScope st) s.heap.objs.size f cdv)) → sp vs H Q E →
      ∃ t, PSs (cxOf CX0 P w K mg base N qual (defScope st) f cdv A outer s H E).nox (defBody st) t ∧ t { nx := fun _ H' => Q .non H', rt := Q } (start N vs) H) : ∃ fd, FnOk P w K mg base CX0 (k + 1) f fd ps sp ∧ Binds K fd ps [] := by
  obtain ⟨fd, F⟩ := D.ex
  have b : Binds K fd ps [] := F.bindsN hb
  refine ⟨fd, F.ok S len (fun cdv A outer s H vs Q E hr hsp => ?_), b⟩
  obtain ⟨t, h, q⟩ := hbody cdv A outer s H vs Q E hr hsp
  exact ⟨t, h.nox, q⟩
end
/-! ### a joiner in the heap -/
/-- behind H0, which knows nothing of it, a joiner stands at p, with its three lists -/
structure JA (C dx : Addr) (H0 H : Hp) (p l1 l2 l3 : Addr) (ones left oth : List Ds) : Prop where
  sm : Same H0 H
  np : H0 p = none
  n3 : H0 l3 = none
  ob : H p = some (.ins C dx (jf l1 l2 l3))
  q1 : ∃ xs, H l1 = some (.lst xs) ∧ All2 (IsDd H) xs ones
  q2 : ∃ xs, H l2 = some (.lst xs) ∧ All2 (IsDd H) xs left
  q3 : ∃ xs, H l3 = some (.lst xs) ∧ All2 (IsDd H) xs oth
  d13 : l1 ≠ l3
  d23 : l2 ≠ l3
section
variable {C dx : Addr} {H0 H H1 : Hp} {p l1 l2 l3 q : Addr} {ones left oth : List Ds}
theorem dds_keep {l : Addr} {ds : List Ds} (s : Same H H1) (h : ∃ xs, H l = some (.lst xs) ∧ All2 (IsDd H) xs ds) : ∃ xs, H1 l = some (.lst xs) ∧ All2 (IsDd H1) xs ds := by
  obtain ⟨xs, h1, h2⟩ := h
  exact ⟨xs, s _ _ h1, h2.mono fun _ _ z => z.sm s⟩
theorem dds_upd {l : Addr} {ds : List Ds} {o : HO} (t : TS H (upd H q o)) (ne : l ≠ q) (h : ∃ xs, H l = some (.lst xs) ∧ All2 (IsDd H) xs ds) : ∃ xs, (upd H q o) l = some (.lst xs) ∧ All2 (IsDd (upd H q o)) xs ds := by
  obtain ⟨xs, h1, h2⟩ := h
  exact ⟨xs, by rw [upd_ne ne]; exact h1, h2.mono fun _ _ z => z.ts t⟩
theorem JA.keep (j : JA C dx H0 H p l1 l2 l3 ones left oth) (s : Same H H1) : JA C dx H0 H1 p l1 l2 l3 ones left oth :=
  ⟨j.sm.trans s, j.np, j.n3, s _ _ j.ob, dds_keep s j.q1, dds_keep s j.q2, dds_keep s j.q3, j.d13, j.d23⟩
/-- another list of ours is changed -/
theorem JA.other (j : JA C dx H0 H p l1 l2 l3 ones left oth) {ys zs : List V} (hq : H q = some (.lst ys)) (nq : H0 q = none) (e1 : l1 ≠ q) (e2 : l2 ≠ q) (e3 : l3 ≠ q) : JA C dx H0 (upd H q (.lst zs)) p l1 l2 l3 ones left oth := by
  have ep : p ≠ q := ne_of j.ob hq (by intro z; cases z)
  exact ⟨sm_mut j.sm nq, j.np, j.n3, by rw [upd_ne ep]; exact j.ob, dds_upd (TS.lst hq) e1 j.q1, dds_upd (TS.lst hq) e2 j.q2, dds_upd (TS.lst hq) e3 j.q3, j.d13, j.d23⟩
theorem JA.app (j : JA C dx H0 H p l1 l2 l3 ones left oth) {ys : List V} {v : V} {d : Ds} (hq : H l3 = some (.lst ys)) (hd : IsDd H v d) : JA C dx H0 (upd H l3 (.lst (ys ++ [v]))) p l1 l2 l3 ones left (oth ++ [d]) := by
  have ep : p ≠ l3 := ne_of j.ob hq (by intro z; cases z)
  have t : TS H (upd H l3 (.lst (ys ++ [v]))) := TS.lst hq
  obtain ⟨xs, h1, h2⟩ := j.q3
  rw [hq] at h1
  cases h1
  exact ⟨sm_mut j.sm j.n3, j.np, j.n3, by rw [upd_ne ep]; exact j.ob, dds_upd t j.d13 j.q1, dds_upd t j.d23 j.q2, ⟨_, upd_same, (h2.mono fun _ _ z => z.ts t).snoc (hd.ts t)⟩, j.d13, j.d23⟩
theorem JA.set (j : JA C dx H0 H p l1 l2 l3 ones left oth) {beh : List Ds} (hq : ∃ xs, H q = some (.lst xs) ∧ All2 (IsDd H) xs beh) (ne : q ≠ l3) : JA C dx H0 (upd H p (.ins C dx (jf q l2 l3))) p q l2 l3 beh left oth := by
  have t : TS H (upd H p (.ins C dx (jf q l2 l3))) := fun a ys e => by
    rw [upd_ne (ne_of e j.ob (by intro z; cases z))]
    exact e
  have np : ∀ {l : Addr} {ds : List Ds}, (∃ xs, H l = some (.lst xs) ∧ All2 (IsDd H) xs ds) → l ≠ p := fun h => by
    obtain ⟨xs, h1, _⟩ := h
    exact ne_of h1 j.ob (by intro z; cases z)
  exact ⟨sm_mut j.sm j.np, j.np, j.n3, upd_same, dds_upd t (np hq) hq, dds_upd t (np j.q2) j.q2, dds_upd t (np j.q3) j.q3, ne, j.d23⟩
end
section
variable {P : Program} {w : World} {K : PySem.W.Frag} {mg : Str → Option Value} {base : Heap}
def spJInit (C : Addr) : Sp := fun vs H Q _ => ∃ (H0 : Hp) (p dx : Addr) (v1 v2 : V) (ones others : List Ds), vs = [.ref p, v1, v2] ∧ Same H0 H ∧ H0 p = none ∧ H p = some (.ins C dx []) ∧ IsDds H v1 ones ∧ IsDds H v2 others ∧
  ∀ H' l1 l2 l3, JA C dx H0 H' p l1 l2 l3 ones others [] → Q .non H'
theorem ok_j_init {C f : Addr} (D : DefM K "__init__" "Joiner.__init__" s_J_init f) (T : Tx mg) (J : JTx K C) : ∃ fd, FnOk P w K mg base CX0 1 f fd ["self", "ones", "others"] (spJInit C) ∧ Binds K fd ["self", "ones", "others"] [] := by
  refine D.fn sc_J_init (fun _ _ _ _ _ _ us hl => match us, hl with | [_, _, _], _ => rfl) (fun vs H Q E h => ?_) (fun cdv A outer s H vs Q E hr h => ?_)
  · obtain ⟨_, _, _, _, _, _, _, rfl, _⟩ := h
    rfl
  · obtain ⟨H0, p, dx, v1, v2, ones, others, rfl, s0, np, hp, ⟨a1, x1, rfl, h1, g1⟩, ⟨a2, x2, rfl, h2, g2⟩, q⟩ := h
    have nd := sc_J_init.nd
    refine ⟨_, (pss_cons (ps_fld (pv 0) (pe_callTy call_list_of (by rfl) T.b_list bt_list (pa_cons (pv 1) pa_nil)) rfl)
      (pss_cons (ps_fld (pv 0) (pe_callTy call_list_of (by rfl) T.b_list bt_list (pa_cons (pv 2) pa_nil)) rfl)
      (pss_one (ps_fld (pv 0) (pe_lst pa_nil) rfl)))), ?_⟩
    -- self.ones = list(ones)
    refine ⟨_, rfl, a1, x1, rfl, .inl (sqL h1), fun l1 e1 => ?_⟩
    have s1 := sm_new (o := .lst x1) e1
    have p1 : p ≠ l1 := ne_of_none hp e1
    have hp1 := s1 _ _ hp
    refine ⟨_, rfl, p, C, dx, _, rfl, hp1, J.cl, J.n1, (by show 0 < 1000; decide), ?_⟩
    generalize eH1 : upd H l1 (.lst x1) = H1 at *
    -- self.left = list(others)
    have k2 : (upd H1 p (.ins C dx (putF "ones" (.ref l1) []))) a2 = some (.lst x2) := by
      rw [upd_ne (ne_of h2 hp (by intro z; cases z))]
      exact s1 _ _ h2
    refine ⟨_, rfl, a2, x2, rfl, .inl (sqL k2), fun l2 e2 => ?_⟩
    have p2 : p ≠ l2 := ne_of_none upd_same e2
    have e2' : H1 l2 = none := by
      rw [upd_ne (Ne.symm p2)] at e2
      exact e2
    refine ⟨_, rfl, p, C, dx, _, rfl, by rw [upd_ne p2]; exact upd_same, J.cl, J.n2, (by show 1 < 1000; decide), ?_⟩
    -- self.others = []
    refine ⟨Nat.zero_le _, fun l3 e3 => ?_⟩
    have p3 : p ≠ l3 := ne_of_none upd_same e3
    have n23 : l2 ≠ l3 := fun z => by
      rw [← z, upd_ne (Ne.symm p2), upd_same] at e3
      cases e3
    have e3' : H1 l3 = none := by
      rw [upd_ne (Ne.symm p3), upd_ne (Ne.symm n23), upd_ne (Ne.symm p3)] at e3
      exact e3
    have hl1 : H1 l1 = some (.lst x1) := by rw [← eH1]; exact upd_same
    have n13 : l1 ≠ l3 := ne_of_none hl1 e3'
    have n12 : l1 ≠ l2 := ne_of_none hl1 e2'
    refine ⟨_, rfl, p, C, dx, _, rfl, by rw [upd_ne p3]; exact upd_same, J.cl, J.n3, (by
      have : (putF "left" (V.ref l2) (putF "ones" (V.ref l1) [])).length ≤ (putF "ones" (V.ref l1) []).length + 1 := length_putF _ _ _
      have h5 : (putF "ones" (V.ref l1) []).length = 1 := rfl
      omega), ?_⟩
    have s01 : Same H0 H1 := s0.trans s1
    have z3 : H0 l3 = none := Same.free s01 e3'
    have z2 : H0 l2 = none := Same.free s01 e2'
    -- all in all
    have ts1 : TS H H1 := ts_of s1
    have tsF : TS H1 (upd (upd (upd (upd (upd H1 p (.ins C dx (putF "ones" (.ref l1) []))) l2 (.lst x2)) p (.ins C dx (putF "left" (.ref l2) (putF "ones" (.ref l1) [])))) l3 (.lst [])) p (.ins C dx (jf l1 l2 l3))) := fun a ys e => by
      have b1 : a ≠ p := ne_of e hp1 (by intro z; cases z)
      have b2 : a ≠ l2 := ne_of_none e e2'
      have b3 : a ≠ l3 := ne_of_none e e3'
      rw [upd_ne b1, upd_ne b3, upd_ne b1, upd_ne b2, upd_ne b1]
      exact e
    refine q _ l1 l2 l3 ⟨?_, np, z3, upd_same, ⟨x1, ?_, g1.mono fun _ _ z => z.ts (ts1.trans tsF)⟩, ⟨x2, ?_, g2.mono fun _ _ z => z.ts (ts1.trans tsF)⟩, ⟨[], ?_, trivial⟩, n13, n23⟩
    · exact sm_mut (sm_mut (sm_mut (sm_mut (sm_mut s01 np) z2) np) z3) np
    · rw [upd_ne (Ne.symm p1), upd_ne n13, upd_ne (Ne.symm p1), upd_ne n12, upd_ne (Ne.symm p1)]
      exact hl1
    · rw [upd_ne (Ne.symm p2), upd_ne n23, upd_ne (Ne.symm p2)]
      exact upd_same
    · rw [upd_ne (Ne.symm p3)]
      exact upd_same
theorem VDd.past {d e : Ds} (v : VDx d) : VDx (past d e) := v.mv (PR.past d e)
def spJJoin (C : Addr) : Sp := fun vs H Q _ => ∃ (H0 : Hp) (p dx l1 l2 l3 : Addr) (ones left : List Ds), vs = [.ref p] ∧ JA C dx H0 H p l1 l2 l3 ones left [] ∧ VDxs ones ∧ VDxs left ∧ ones.length ≤ 1000 ∧ left.length ≤ 1000 ∧
  (∀ H' t, Same H0 H' → join ones left = none → Q (.ref t) H') ∧ (∀ H' m1 r1 r2, join ones left = some (r1, r2) → JA C dx H0 H' p m1 l2 l3 r1 left r2 → Q .non H')
theorem ok_j_join {C f : Addr} (D : DefM K "join" "Joiner.join" s_J_join f) (T : Tx mg) (J : JTx K C) (c_do_clash : C8.Cal P w K mg base 4 "do_clash" spDoClash []) (c_past : C8.Cal P w K mg base 4 "past" spPast []) :
    ∃ fd, FnOk P w K mg base CX0 5 f fd ["self"] (spJJoin C) ∧ Binds K fd ["self"] [] := by
  refine D.fn sc_J_join (fun _ _ _ _ _ _ us hl => match us, hl with | [_], _ => rfl) (fun vs H Q E h => ?_) (fun cdv A outer s H vs Q E hr h => ?_)
  · obtain ⟨_, _, _, _, _, _, _, _, rfl, _⟩ := h
    rfl
  · obtain ⟨H0, p, dx, l1, l2, l3, ones, left, rfl, ja, v1, v2, z1, z2, qN, qS⟩ := h
    have nd := sc_J_join.nd
    obtain ⟨xs, hxs, gxs⟩ := ja.q2
    have lxs := gxs.len
    refine ⟨_, (pss_cons (ps_for PassesOwn.never rfl (pi_enum (by rfl) T.b_enumerate (pa_cons (pe_fld (pv 0) rfl) pa_nil)) (pg_tup rfl (pgs_cons (pg_name (i := 1) nd rfl (Or.inl rfl)) (pgs_cons (pg_name (i := 2) nd rfl (Or.inl rfl)) pgs_nil))) (pss_cons (ps_set (i := 3) nd rfl (Or.inl rfl) (pe_lst pa_nil))
      (pss_cons (ps_for PassesOwn.never rfl (pi_enum (by rfl) T.b_enumerate (pa_cons (pe_fld (pv 0) rfl) pa_nil)) (pg_tup rfl (pgs_cons (pg_name (i := 4) nd rfl (Or.inl rfl)) (pgs_cons (pg_name (i := 5) nd rfl (Or.inl rfl)) pgs_nil))) (pss_cons (ps_if (pt_val (C8.pe_c c_do_clash hr (by decide) (by rfl) (pa_cons (pv 5) (pa_cons (pv 2) pa_nil)))) (pss_one (ps_ret (pe_tup (pa_cons (pv 4) (pa_cons (pv 1) pa_nil))))) pss_nil)
      (pss_cons (ps_expr (pe_bm PySem.F.plainAttrs_list PySem.F.slot_list_append PySem.F.type_list_append mt_append (pv 3) (pa_cons (C8.pe_c c_past hr (by decide) (by rfl) (pa_cons (pv 5) (pa_cons (pv 2) pa_nil))) pa_nil)))
      (pss_one (ps_set (i := 2) nd rfl (Or.inl rfl) (C8.pe_c c_past hr (by decide) (by rfl) (pa_cons (pv 2) (pa_cons (pv 5) pa_nil))))))))
      (pss_cons (ps_fld (pv 0) (pv 3) rfl)
      (pss_one (ps_expr (pe_bm PySem.F.plainAttrs_list PySem.F.slot_list_append PySem.F.type_list_append mt_append (pe_fld (pv 0) rfl) (pa_cons (pv 2) pa_nil))))))))
      (pss_one (ps_ret pe_non))), ?_⟩
    refine ⟨_, rfl, p, C, dx, _, _, rfl, ja.ob, J.cl, J.n2, jf_left _ _ _, l2, xs, rfl, sqL hxs, ?_⟩
    refine for_it (walk_enum (xs := xs)) (fun i σ H' => ∃ (m1 : Addr) (cur oth : List Ds) (u1 u2 u3 u4 u5 : Option V), σ = [some (.ref p), u1, u2, u3, u4, u5] ∧ JA C dx H0 H' p m1 l2 l3 cur left oth ∧ H' l2 = some (.lst xs) ∧ VDxs cur ∧ cur.length = ones.length ∧ oth.length = i ∧
      join ones left = (join cur (left.drop i)).map fun q => (q.1, oth ++ q.2)) ⟨l1, ones, [], none, none, none, none, none, rfl, ja, hxs, v1, rfl, rfl, ?_⟩ ?_ ?_ ?_
    · show join ones left = (join ones left).map fun q => (q.1, [] ++ q.2)
      simp
    · rintro i σ H' _ ⟨_, _, _, _, _, _, _, _, _, _, h, _⟩
      exact sqL h
    · rintro i x σ H1 H2 hi ⟨m1, cur, oth, _, _, _, _, _, rfl, ja1, hx1, vc, lc, lo, ej⟩ ⟨T0, x0, y0, rfl, hT, rfl, hx0, hy0⟩
      cases hx0
      obtain ⟨t0, et, ht0⟩ : ∃ t0, left[i]? = some t0 ∧ IsDd H1 y0 t0 := by
        obtain ⟨ys, h3, h4⟩ := ja1.q2
        rw [hx1] at h3
        cases h3
        exact h4.get hy0
      have vt0 : VDx t0 := v2 t0 (List.mem_of_getElem? et)
      have edr : left.drop i = t0 :: left.drop (i + 1) := by
        have hi2 := at_lt et
        rw [List.drop_eq_getElem_cons hi2]
        have : left[i] = t0 := by
          rw [List.getElem?_eq_getElem hi2] at et
          exact Option.some.inj et
        rw [this]
      rw [edr] at ej
      have sT := sm_new (o := .tup [.int (i : Nat), y0]) hT
      -- number, theirs
      refine ⟨T0, _, rfl, sqT upd_same, rfl, _, _, rfl, _, _, rfl, rfl, ?_⟩
      -- behind = []
      refine ⟨Nat.zero_le _, fun lb hlb => ?_⟩
      have sb := sm_new (o := .lst []) hlb
      have ja2 := ja1.keep (sT.trans sb)
      have hx2 := (sT.trans sb) _ _ hx1
      have ht2 := ht0.sm (sT.trans sb)
      have gb : Grow IsDd H0 (upd (upd H1 T0 (.tup [.int (i : Nat), y0])) lb (.lst [])) lb [] := Grow.start (ja1.sm.trans sT) hlb
      have b1 : m1 ≠ lb := by
        obtain ⟨ys, h3, _⟩ := ja1.q1
        exact ne_of_none (sT _ _ h3) hlb
      have b2 : l2 ≠ lb := ne_of_none (sT _ _ hx1) hlb
      have b3 : l3 ≠ lb := by
        obtain ⟨ys, h3, _⟩ := ja1.q3
        exact ne_of_none (sT _ _ h3) hlb
      generalize upd (upd H1 T0 (.tup [.int (i : Nat), y0])) lb (.lst []) = H3 at ja2 hx2 ht2 gb
      -- the inner loop
      obtain ⟨ws, hws, gws⟩ := ja2.q1
      have lws := gws.len
      refine ⟨_, rfl, p, C, dx, _, _, rfl, ja2.ob, J.cl, J.n1, jf_ones _ _ _, m1, ws, rfl, sqL hws, ?_⟩
      refine for_it (walk_enum (xs := ws)) (fun j σ H' => ∃ (vt : V) (t : Ds) (beh : List Ds) (u4 u5 : Option V), σ = [some (.ref p), some (.int (i : Nat)), some vt, some (.ref lb), u4, u5] ∧ JA C dx H0 H' p m1 l2 l3 cur left oth ∧ H' l2 = some (.lst xs) ∧ H' m1 = some (.lst ws) ∧ IsDd H' vt t ∧ VDx t ∧ VDxs beh ∧
        Grow IsDd H0 H' lb beh ∧ beh.length = j ∧ row1 cur t0 = (row1 (cur.drop j) t).map fun r => (beh ++ r.1, r.2)) ⟨y0, t0, [], _, _, rfl, ja2, hx2, hws, ht2, vt0, (fun _ h => nomatch h), gb, rfl, ?_⟩ ?_ ?_ ?_
      · show row1 cur t0 = (row1 cur t0).map fun r => ([] ++ r.1, r.2)
        simp
      · rintro j σ H' _ ⟨_, _, _, _, _, _, _, _, h, _⟩
        exact sqL h
      · rintro j x σ H4 H5 hj ⟨vt, t, beh, _, _, rfl, ja4, hx4, hw4, ht4, vt4, vb, gb4, lb4, er⟩ ⟨T1, x1, y1, rfl, hT1, rfl, hx1', hy1⟩
        cases hx1'
        obtain ⟨m, em, hm⟩ : ∃ m, cur[j]? = some m ∧ IsDd H4 y1 m := by
          obtain ⟨ys, h3, h4⟩ := ja4.q1
          rw [hw4] at h3
          cases h3
          exact h4.get hy1
        have vm : VDx m := vc m (List.mem_of_getElem? em)
        have edr2 : cur.drop j = m :: cur.drop (j + 1) := by
          have hi2 := at_lt em
          rw [List.drop_eq_getElem_cons hi2]
          have : cur[j] = m := by
            rw [List.getElem?_eq_getElem hi2] at em
            exact Option.some.inj em
          rw [this]
        rw [edr2] at er
        have s1 := sm_new (o := .tup [.int (j : Nat), y1]) hT1
        -- at, mine
        refine ⟨T1, _, rfl, sqT upd_same, rfl, _, _, rfl, _, _, rfl, rfl, ?_⟩
        generalize upd H4 T1 (.tup [.int (j : Nat), y1]) = H5 at s1
        -- if do_clash(mine, theirs)
        refine ⟨_, rfl, _, rfl, y1, vt, m, t, rfl, hm.sm s1, ht4.sm s1, vm, vt4, fun H6 s6 => ⟨_, rfl, ?_⟩⟩
        have t6 := s1.trans s6
        by_cases hc : clash m t = true
        · refine iteB hc ⟨_, rfl, _, rfl, by show 2 ≤ sizeLine; decide, fun t7 ht7 => ?_⟩
          refine qN _ t7 ((ja4.sm.trans t6).trans (sm_new ht7)) ?_
          have e1 : row1 (m :: cur.drop (j + 1)) t = none := by
            show (if clash m t = true then none else _) = none
            rw [if_pos hc]
          rw [e1] at er
          have e2 : row1 cur t0 = none := er
          have e3 : join cur (t0 :: left.drop (i + 1)) = none := by
            show (row1 cur t0).bind _ = none
            rw [e2]
            rfl
          rw [ej, e3]
          rfl
        · refine iteC (by simpa using hc) ?_
          have e1 : row1 (m :: cur.drop (j + 1)) t = (row1 (cur.drop (j + 1)) (past t m)).map fun r => (past m t :: r.1, r.2) := by
            show (if clash m t = true then none else _) = _
            rw [if_neg hc]
          -- behind.append(past(mine, theirs))
          have gb6 := gb4.keep mDd t6
          obtain ⟨zs, h7, h8⟩ := gb6.ls
          refine ⟨_, rfl, .inl ⟨rfl, _, sqL h7⟩, _, rfl, _, rfl, y1, vt, m, t, rfl, hm.sm t6, ht4.sm t6, vm, vt4, fun H7 v7 s7 r7 => ?_⟩
          have t7 := t6.trans s7
          have gb7 := gb6.keep mDd s7
          obtain ⟨zs7, h9, h10⟩ := gb7.ls
          have hj2 := at_lt em
          refine ⟨lb, zs7, v7, rfl, rfl, h9, sz_lt (by rw [h10.len]; omega), ?_⟩
          have ja7 := (ja4.keep t7).other (zs := zs7 ++ [v7]) h9 gb4.np b1 b2 b3
          have gb8 := gb7.more mDd h9 h10 (.one r7)
          have ts8 : TS H7 (upd H7 lb (.lst (zs7 ++ [v7]))) := TS.lst h9
          have hx8 : (upd H7 lb (.lst (zs7 ++ [v7]))) l2 = some (.lst xs) := by
            rw [upd_ne b2]
            exact t7 _ _ hx4
          have hw8 : (upd H7 lb (.lst (zs7 ++ [v7]))) m1 = some (.lst ws) := by
            rw [upd_ne b1]
            exact t7 _ _ hw4
          have hm8 := (hm.sm t7).ts ts8
          have ht8 := (ht4.sm t7).ts ts8
          generalize upd H7 lb (.lst (zs7 ++ [v7])) = H8 at ja7 gb8 hx8 hw8 hm8 ht8
          -- theirs = past(theirs, mine)
          refine ⟨_, rfl, _, rfl, vt, y1, t, m, rfl, ht8, hm8, vt4, vm, fun H9 v9 s9 r9 => ?_⟩
          refine ⟨v9, past t m, beh ++ [past m t], _, _, rfl, ja7.keep s9, s9 _ _ hx8, s9 _ _ hw8, r9, VDd.past vt4, fun d hd => ?_, gb8.keep mDd s9, ?_, ?_⟩
          · rcases List.mem_append.mp hd with hd | hd
            · exact vb d hd
            · rw [List.mem_singleton.mp hd]
              exact VDd.past vm
          · rw [List.length_append, lb4]
            rfl
          · rw [er, e1, Option.map_map]
            congr 1
            funext r
            simp
      · rintro σ H4 ⟨vt, t, beh, _, _, rfl, ja4, hx4, hw4, ht4, vt4, vb, gb4, lb4, er⟩
        have lj : beh.length = cur.length := lb4.trans lws
        rw [lws, List.drop_length] at er
        have er : row1 cur t0 = some (beh, t) := by
          rw [er]
          show some (beh ++ [], t) = _
          rw [List.append_nil]
        have e3 : join cur (t0 :: left.drop (i + 1)) = (join beh (left.drop (i + 1))).map fun q => (q.1, t :: q.2) := by
          show (row1 cur t0).bind _ = _
          rw [er]
          rfl
        -- self.ones = behind
        refine ⟨_, rfl, _, rfl, p, C, dx, _, rfl, ja4.ob, J.cl, J.n1, jf_len _ _ _, ?_⟩
        rw [jf_put]
        have ja5 := ja4.set gb4.ls (Ne.symm b3)
        have ts5 : TS H4 (upd H4 p (.ins C dx (jf lb l2 l3))) := fun a ys e => by
          rw [upd_ne (ne_of e ja4.ob (by intro z; cases z))]
          exact e
        have hx5 : (upd H4 p (.ins C dx (jf lb l2 l3))) l2 = some (.lst xs) := by
          rw [upd_ne (ne_of hx4 ja4.ob (by intro z; cases z))]
          exact hx4
        have ht5 := ht4.ts ts5
        generalize upd H4 p (.ins C dx (jf lb l2 l3)) = H5 at ja5 hx5 ht5
        -- self.others.append(theirs)
        obtain ⟨zs, h6, h7⟩ := ja5.q3
        have lz := h7.len
        have li : i < xs.length := hi
        refine ⟨_, rfl, p, C, dx, _, _, rfl, ja5.ob, J.cl, J.n3, jf_others _ _ _, .inl ⟨rfl, _, sqL h6⟩, vt, rfl, l3, zs, vt, rfl, rfl, h6, sz_lt (by omega), ?_⟩
        refine ⟨lb, beh, oth ++ [t], _, _, _, _, _, rfl, ja5.app h6 ht5, by rw [upd_ne ja5.d23]; exact hx5, vb, by omega, by simp [lo], ?_⟩
        rw [ej, e3, Option.map_map]
        congr 1
        funext q
        simp
    · rintro σ H4 ⟨m1, cur, oth, _, _, _, _, _, rfl, ja4, hx4, vc, lc, lo, ej⟩
      rw [lxs, List.drop_length] at ej
      have e : join ones left = some (cur, oth) := by
        rw [ej]
        show some (cur, oth ++ []) = _
        rw [List.append_nil]
      exact qS _ m1 cur oth e ja4
end
end K62
/-! K62, the walk, eighth part: clash and joined. -/
namespace K62
open PySem PySem.Spec PyProof.Rows L2
/-- what joining asks of its arguments -/
structure JIn (H : Hp) (v u1 u2 : V) (ps : List Ps) (ones others : List Ds) (M Y : List Fs) : Prop where
  row : IsRow H v ps
  vr : VRw ps
  d1 : IsDds H u1 ones
  d2 : IsDds H u2 others
  v1 : VDxs ones
  v2 : VDxs others
  f1 : FitL (film ps) (ones.map Dd.G) M
  f2 : FitL (film ps) (others.map Dd.G) Y
  z0 : len ps ≤ 100
  z1 : ones.length ≤ 3
  z2 : others.length ≤ 3
theorem JIn.sm {H H' : Hp} {v u1 u2 : V} {ps : List Ps} {ones others : List Ds} {M Y : List Fs} (j : JIn H v u1 u2 ps ones others M Y) (s : Same H H') : JIn H' v u1 u2 ps ones others M Y :=
  ⟨j.row.sm s, j.vr, j.d1.sm s, j.d2.sm s, j.v1, j.v2, j.f1, j.f2, j.z0, j.z1, j.z2⟩
section
variable {P : Program} {w : World} {K : PySem.W.Frag} {mg : Str → Option Value} {base : Heap}
def spJoinerOf (C : Addr) : Sp := fun vs H Q _ => ∃ (v u1 u2 : V) (ps : List Ps) (ones others : List Ds) (M Y : List Fs), vs = [v, u1, u2] ∧ JIn H v u1 u2 ps ones others M Y ∧
  ∀ H' p dx l1 l2 l3, JA C dx H H' p l1 l2 l3 ones others [] → Q (.ref p) H'
theorem JA.ext {C dx : Addr} {H0 H1 H : Hp} {p l1 l2 l3 : Addr} {ones left oth : List Ds} (s : Same H0 H1) (j : JA C dx H1 H p l1 l2 l3 ones left oth) : JA C dx H0 H p l1 l2 l3 ones left oth :=
  ⟨s.trans j.sm, Same.free s j.np, Same.free s j.n3, j.ob, j.q1, j.q2, j.q3, j.d13, j.d23⟩
theorem ok_joiner_of {C : Addr} (D : DefF K mg "joiner_of" s_joiner_of) (c_checked : C8.Cal P w K mg base 4 "checked" spChecked []) (c_need_deeds : C8.Cal P w K mg base 6 "need_deeds" spNeedDeeds []) (c_all_done : C8.Cal P w K mg base 8 "all_done" spAllDone [])
    (c_Joiner : C8.Mak P w K mg base 1 "Joiner" C (spJInit C) []) : C8.Cal P w K mg base 9 "joiner_of" (spJoinerOf C) [] := by
  refine D.cal sc_joiner_of (fun _ _ _ _ _ _ us hl => match us, hl with | [_, _, _], _ => rfl) (fun vs H Q E h => ?_) (fun f cdv A outer s H vs Q E hr h => ?_)
  · obtain ⟨_, _, _, _, _, _, _, _, rfl, _⟩ := h
    rfl
  · obtain ⟨v, u1, u2, ps, ones, others, M, Y, rfl, j, q⟩ := h
    have nd := sc_joiner_of.nd
    have hs := VRow.short j.vr
    have z0 := j.z0
    have z1 := j.z1
    have z2 := j.z2
    refine ⟨_, (pss_cons (ps_expr (C8.pe_c c_checked hr (by decide) (by rfl) (pa_cons (pv 0) pa_nil)))
      (pss_cons (ps_expr (C8.pe_c c_need_deeds hr (by decide) (by rfl) (pa_cons (pv 1) pa_nil)))
      (pss_cons (ps_expr (C8.pe_c c_need_deeds hr (by decide) (by rfl) (pa_cons (pv 2) pa_nil)))
      (pss_cons (ps_expr (C8.pe_c c_all_done hr (by decide) (by rfl) (pa_cons (pv 0) (pa_cons (pv 1) pa_nil))))
      (pss_cons (ps_expr (C8.pe_c c_all_done hr (by decide) (by rfl) (pa_cons (pv 0) (pa_cons (pv 2) pa_nil))))
      (pss_one (ps_ret (C8.pe_mk c_Joiner hr (by decide) (by rfl) (pa_cons (pv 1) (pa_cons (pv 2) pa_nil)))))))))), ?_⟩
    refine ⟨_, rfl, v, ps, rfl, j.row, j.vr, by omega, fun H1 s1 => ?_⟩
    refine ⟨_, rfl, u1, ones, rfl, j.d1.sm s1, j.v1, by omega, fun H2 s2 => ?_⟩
    have t2 := s1.trans s2
    refine ⟨_, rfl, u2, others, rfl, j.d2.sm t2, j.v2, by omega, fun H3 s3 => ?_⟩
    have t3 := t2.trans s3
    refine ⟨_, rfl, _, rfl, v, u1, ps, ones, M, rfl, j.row.sm t3, j.vr, j.d1.sm t3, j.v1, j.f1, by omega, fun H4 v4 R4 s4 r4 vR4 e4 => ?_⟩
    have t4 := t3.trans s4
    refine ⟨_, rfl, _, rfl, v, u2, ps, others, Y, rfl, j.row.sm t4, j.vr, j.d2.sm t4, j.v2, j.f2, by omega, fun H5 v5 R5 s5 r5 vR5 e5 => ?_⟩
    have t5 := t4.trans s5
    refine ⟨_, rfl, _, rfl, fun x dx nx ndx nex => ?_⟩
    have s6 : Same H5 (upd (upd H5 dx (.own x)) x (.ins C dx [])) := fun b o e => by
      rw [upd_ne (ne_of_none e nx), upd_ne (ne_of_none e ndx)]
      exact e
    exact ⟨H5, x, dx, u1, u2, ones, others, rfl, s6, nx, upd_same, j.d1.sm (t5.trans s6), j.d2.sm (t5.trans s6), fun H6 l1 l2 l3 ja => ⟨rfl, q _ x dx l1 l2 l3 (ja.ext t5)⟩⟩
def spClash : Sp := fun vs H Q _ => ∃ (v u1 u2 : V) (ps : List Ps) (ones others : List Ds) (M Y : List Fs), vs = [v, u1, u2] ∧ JIn H v u1 u2 ps ones others M Y ∧
  (∀ H' t, Same H H' → join ones others = none → Q (.ref t) H') ∧ (∀ H' r, Same H H' → join ones others = some r → Q .non H')
theorem ok_clash {C : Addr} (D : DefF K mg "clash" s_clash) (c_joiner_of : C8.Cal P w K mg base 9 "joiner_of" (spJoinerOf C) []) (c_join : C8.Met P w K mg base 5 C "join" (spJJoin C) []) : C8.Cal P w K mg base 10 "clash" spClash [] := by
  refine D.cal sc_clash (fun _ _ _ _ _ _ us hl => match us, hl with | [_, _, _], _ => rfl) (fun vs H Q E h => ?_) (fun f cdv A outer s H vs Q E hr h => ?_)
  · obtain ⟨_, _, _, _, _, _, _, _, rfl, _⟩ := h
    rfl
  · obtain ⟨v, u1, u2, ps, ones, others, M, Y, rfl, j, qN, qS⟩ := h
    have nd := sc_clash.nd
    have z1 := j.z1
    have z2 := j.z2
    refine ⟨_, (pss_one (ps_ret (C8.pe_mt0 c_join hr (by decide) (C8.pe_c c_joiner_of hr (by decide) (by rfl) (pa_cons (pv 0) (pa_cons (pv 1) (pa_cons (pv 2) pa_nil))))))), ?_⟩
    refine ⟨_, rfl, _, rfl, _, rfl, v, u1, u2, ps, ones, others, M, Y, rfl, j, fun H1 p dx l1 l2 l3 ja => ?_⟩
    refine ⟨p, dx, _, rfl, ja.ob, jf_join _ _ _, ?_⟩
    exact ⟨H, p, dx, l1, l2, l3, ones, others, rfl, ja, j.v1, j.v2, by omega, by omega, fun H2 t s2 e => qN _ t s2 e, fun H2 m1 r1 r2 e ja2 => qS _ _ ja2.sm e⟩
def spJoined : Sp := fun vs H Q _ => ∃ (v u1 u2 : V) (ps : List Ps) (ones others r1 r2 : List Ds) (M Y W : List Fs), vs = [v, u1, u2] ∧ JIn H v u1 u2 ps ones others M Y ∧ join ones others = some (r1, r2) ∧ FitL M (r2.map Dd.G) W ∧ VDxs r2 ∧ r2.length ≤ 3 ∧
  ∀ H' t w1 w2 w3 R, Same H H' → H' t = some (.tup [w1, w2, w3]) → IsDds H' w1 r2 → IsRow H' w3 R → len R = W.length → R.length ≤ 3000 → Q (.ref t) H'
theorem ok_joined {C : Addr} (D : DefF K mg "joined" s_joined) (J : JTx K C) (c_joiner_of : C8.Cal P w K mg base 9 "joiner_of" (spJoinerOf C) []) (c_join : C8.Met P w K mg base 5 C "join" (spJJoin C) []) (c_all_done : C8.Cal P w K mg base 8 "all_done" spAllDone [])
    (c_least : C8.Cal P w K mg base 6 "least" spLeast []) : C8.Cal P w K mg base 10 "joined" spJoined [] := by
  refine D.cal sc_joined (fun _ _ _ _ _ _ us hl => match us, hl with | [_, _, _], _ => rfl) (fun vs H Q E h => ?_) (fun f cdv A outer s H vs Q E hr h => ?_)
  · obtain ⟨_, _, _, _, _, _, _, _, _, _, _, rfl, _⟩ := h
    rfl
  · obtain ⟨v, u1, u2, ps, ones, others, r1, r2, M, Y, W, rfl, j, hj, fw, vr2, zr2, q⟩ := h
    have nd := sc_joined.nd
    have z0 := j.z0
    have z1 := j.z1
    have z2 := j.z2
    refine ⟨_, (pss_cons (ps_set (i := 3) nd rfl (Or.inl rfl) (C8.pe_c c_joiner_of hr (by decide) (by rfl) (pa_cons (pv 0) (pa_cons (pv 1) (pa_cons (pv 2) pa_nil)))))
      (pss_cons (ps_if (pt_cmpR op_notN (C8.pe_mt0 c_join hr (by decide) (pv 3)) pe_non (nomark _)) (pss_one ps_never) pss_nil)
      (pss_cons (ps_set (i := 4) nd rfl (Or.inl rfl) (C8.pe_c c_all_done hr (by decide) (by rfl) (pa_cons (C8.pe_c c_all_done hr (by decide) (by rfl) (pa_cons (pv 0) (pa_cons (pv 1) pa_nil))) (pa_cons (pe_fld (pv 3) rfl) pa_nil))))
      (pss_one (ps_ret (pe_tup (pa_cons (pe_fld (pv 3) rfl) (pa_cons (pe_fld (pv 3) rfl) (pa_cons (C8.pe_c c_least hr (by decide) (by rfl) (pa_cons (pv 4) pa_nil)) pa_nil))))))))), ?_⟩
    refine ⟨_, rfl, _, rfl, _, rfl, v, u1, u2, ps, ones, others, M, Y, rfl, j, fun H1 p dx l1 l2 l3 ja => ?_⟩
    -- if joiner.join() is not None
    refine ⟨_, rfl, p, dx, _, rfl, ja.ob, jf_join _ _ _, ?_⟩
    refine ⟨H, p, dx, l1, l2, l3, ones, others, rfl, ja, j.v1, j.v2, by omega, by omega, fun H2 t s2 e => (by rw [hj] at e; cases e), fun H2 m1 q1 q2 e ja2 => ?_⟩
    rw [hj] at e
    cases e
    refine ⟨rfl, _, rfl, iteC (ndf rfl) ?_⟩
    -- whole
    have j2 := j.sm ja2.sm
    refine ⟨_, rfl, _, rfl, v, u1, ps, ones, M, rfl, j2.row, j.vr, j2.d1, j.v1, j.f1, by omega, fun H3 v3 R3 s3 r3 vR3 e3 => ?_⟩
    have ja3 := ja2.keep s3
    have bM := j.f1.bound (n := 100) fun g hg => by
      obtain ⟨d, hd, rfl⟩ := List.mem_map.mp hg
      exact (j.v1 d hd).new_le
    rw [List.length_map] at bM
    have e5 := film_len ps
    have e6 := film_len R3
    rw [e3] at e6
    obtain ⟨xs3, hx3, gx3⟩ := ja3.q3
    refine ⟨_, rfl, p, C, dx, _, _, rfl, ja3.ob, J.cl, J.n3, jf_others _ _ _, v3, .ref l3, R3, r2, W, rfl, r3, vR3, ⟨l3, xs3, rfl, hx3, gx3⟩, vr2, by rw [e3]; exact fw, by omega, fun H4 v4 R4 s4 r4 vR4 e4 => ?_⟩
    have ja4 := ja3.keep s4
    -- return (joiner.others, joiner.ones, least(whole))
    refine ⟨_, rfl, p, C, dx, _, _, rfl, ja4.ob, J.cl, J.n3, jf_others _ _ _, ?_⟩
    refine ⟨_, rfl, p, C, dx, _, _, rfl, ja4.ob, J.cl, J.n1, jf_ones _ _ _, ?_⟩
    refine ⟨_, rfl, v4, R4, rfl, r4, vR4, fun H5 v5 s5 r5 => ⟨by show 3 ≤ sizeLine; decide, fun t ht => ?_⟩⟩
    have s6 := sm_new (o := .tup [.ref l3, .ref m1, v5]) ht
    have ja6 := (ja4.keep s5).keep s6
    obtain ⟨xs6, hx6, gx6⟩ := ja6.q3
    have hR : VRw (least (film R4)) := least_good nm_blk (VPcs.frames vR4.1) (by rw [film_len]; exact vR4.2)
    refine q _ t _ _ _ (least (film R4)) ja6.sm upd_same ⟨l3, xs6, rfl, hx6, gx6⟩ (r5.sm s6) ?_ (VRow.short hR)
    rw [len_least, e4]
end
end K62
/-! K62, the walk, ninth part: what the law draws: numbers, names, pieces. -/
namespace K62
open PySem PySem.Spec PyProof.Rows L2
theorem dpInts {K : PySem.W.Frag} {H : Hp} : ∀ ns : List Int, DpAll K H (ns.map V.int) (ns.map PyData.int)
  | [] => .nil
  | n :: ns => .cons (.int n) (dpInts ns)
theorem ints_sh (ns : List Int) : SeqAt.shaped (.list (ns.map PyData.int)) = true := shL (f := PyData.int) (fun a _ => by simp [PyData.canLay0]) (n := 5) (fun a => by simp [PyData.depth]) (by decide)
theorem ints_eqv (a b : List Int) : PyData.eqv (.list (a.map PyData.int)) (.list (b.map PyData.int)) = decide (a = b) := by
  simp only [PyData.eqv]
  exact eqvAll_map (f := PyData.int) (fun x y => by simp only [PyData.eqv, beq_dec]) a b
theorem pickL {xs : List V} {i : Int} (h0 : 0 ≤ i) (h1 : i < xs.length) : ∃ v, v ∈ xs ∧ atI xs i = some v := by
  have h2 : i.toNat < xs.length := by omega
  refine ⟨xs[i.toNat], List.getElem_mem h2, at_of (j := i.toNat) (by omega) (List.getElem?_eq_getElem h2)⟩
theorem emod_b (x : Int) {c : Int} (h : 0 < c) : 0 ≤ x % c ∧ x % c < c := ⟨Int.emod_nonneg _ (by omega), Int.emod_lt_of_pos _ h⟩
theorem cm_mod {x c y : Int} (h0 : 0 < c) (h1 : c < 2 ^ 64) : CMul (x % c) y := by
  have := emod_b x h0
  exact .inl ⟨by omega, by omega⟩
theorem sum_ones : ∀ cs : List Nat, ((cs.map fun c => (⟨#[c]⟩ : Str)).map (·.length)).sum = cs.length
  | [] => rfl
  | c :: cs => by
    rw [List.map_cons, List.map_cons, List.sum_cons, sum_ones cs, List.length_cons]
    show 1 + cs.length = cs.length + 1
    omega
/-- the script that the law is handed -/
def Scr (K : PySem.W.Frag) (H : Hp) (v : V) : Prop := ∃ (a : Addr) (ns : List Int), v = .ref a ∧ SqL K H a (ns.map V.int) ∧ ns.length ≤ 63
theorem Scr.sm {K : PySem.W.Frag} {H H' : Hp} {v : V} (h : Scr K H v) (s : Same H H') : Scr K H' v := by
  obtain ⟨a, ns, rfl, h1, h2⟩ := h
  exact ⟨a, ns, rfl, L2.Same.seq s h1, h2⟩
section
variable {P : Program} {w : World} {K : PySem.W.Frag} {mg : Str → Option Value} {base : Heap}
def spCell (K : PySem.W.Frag) : Sp := fun vs H Q _ => ∃ (v : V) (k : Int), vs = [v, .int k] ∧ Scr K H v ∧ ∀ H' i, Same H H' → Q (.int i) H'
theorem ok_cell (D : DefF K mg "_law_cell" s_law_cell) (T : Tx mg) : C8.Cal P w K mg base 1 "_law_cell" (spCell K) [] := by
  refine D.cal sc_law_cell (fun _ _ _ _ _ _ us hl => match us, hl with | [_, _], _ => rfl) (fun vs H Q E h => ?_) (fun f cdv A outer s H vs Q E hr h => ?_)
  · obtain ⟨_, _, rfl, _⟩ := h
    rfl
  · obtain ⟨_, k, rfl, ⟨a, ns, rfl, hS, hl⟩, q⟩ := h
    have nd := sc_law_cell.nd
    refine ⟨_, (pss_cons (ps_if (pt_cmpR (op_eqD hr.units) (pv 0) (pe_lst pa_nil) (nomark _)) (pss_one (ps_ret (pe_op op_mul pe_int (pv 1)))) pss_nil)
      (pss_one (ps_ret (pe_op op_add (pe_ix ix_list (pv 0) (pe_op op_mod (pv 1) (pe_callB call_len_seq (by rfl) T.b_len bt_len (pa_cons (pv 0) pa_nil))) (fun _ _ => rfl)) (pe_op op_mul pe_int (pe_op op_fdiv (pv 1) (pe_callB call_len_seq (by rfl) T.b_len bt_len (pa_cons (pv 0) pa_nil)))))))), ?_⟩
    refine ⟨_, rfl, Nat.zero_le _, fun t ht => ?_⟩
    have s1 := sm_new (o := .lst []) ht
    refine ⟨.list (ns.map PyData.int), .list (([] : List Int).map PyData.int), .lst (L2.Same.seq s1 hS) (dpInts ns), .lst (sqL upd_same) .nil, ints_sh _, ints_sh _, _, rfl, ?_⟩
    rw [ints_eqv]
    by_cases h : ns = []
    · exact iteB (decide_eq_true h) ⟨_, rfl, _, _, rfl, rfl, .inl ⟨by decide, by decide⟩, q _ _ s1⟩
    · refine iteC (decide_eq_false h) ?_
      have hn : 0 < ns.length := List.length_pos_iff.mpr h
      have hS1 := L2.Same.seq s1 hS
      obtain ⟨b1, b2⟩ := emod_b k (c := (ns.length : Int)) (by omega)
      have hj : (k % (ns.length : Int)).toNat < ns.length := by omega
      have hx : (ns.map V.int)[(k % (ns.length : Int)).toNat]? = some (.int ns[(k % (ns.length : Int)).toNat]) := by
        rw [List.getElem?_map, List.getElem?_eq_getElem hj]
        rfl
      have el : ((ns.map V.int).length : Int) = (ns.length : Int) := by rw [List.length_map]
      have hat : atI (ns.map V.int) (k % ((ns.map V.int).length : Int)) = some (.int ns[(k % (ns.length : Int)).toNat]) := at_of (j := (k % (ns.length : Int)).toNat) (by rw [el]; omega) hx
      refine ⟨_, rfl, _, rfl, _, rfl, a, ns.map V.int, rfl, .inl hS1, k, _, rfl, rfl, by rw [el]; omega, a, ns.map V.int, _, _, rfl, rfl, hS1, hat, ?_⟩
      refine ⟨_, rfl, _, rfl, a, ns.map V.int, rfl, .inl hS1, k, _, rfl, rfl, ⟨by rw [el]; omega, by rw [el]; omega⟩, _, _, rfl, rfl, .inl ⟨by decide, by decide⟩, _, _, rfl, rfl, q _ _ s1⟩
def spDrawn (K : PySem.W.Frag) : Sp := fun vs H Q _ => ∃ (v : V) (k m : Int), vs = [v, .int k, .int m] ∧ Scr K H v ∧ 0 < m ∧ ∀ H' i, Same H H' → 0 ≤ i → i < m → Q (.int i) H'
theorem ok_drawn (D : DefF K mg "_law_drawn" s_law_drawn) (c__law_cell : C8.Cal P w K mg base 1 "_law_cell" (spCell K) []) : C8.Cal P w K mg base 2 "_law_drawn" (spDrawn K) [] := by
  refine D.cal sc_law_drawn (fun _ _ _ _ _ _ us hl => match us, hl with | [_, _, _], _ => rfl) (fun vs H Q E h => ?_) (fun f cdv A outer s H vs Q E hr h => ?_)
  · obtain ⟨_, _, _, rfl, _⟩ := h
    rfl
  · obtain ⟨v, k, m, rfl, hS, hm, q⟩ := h
    have nd := sc_law_drawn.nd
    refine ⟨_, (pss_cons (ps_set (i := 3) nd rfl (Or.inl rfl) (pe_op op_mod (pe_op op_add (pe_op op_mul (pe_op op_mod (C8.pe_c c__law_cell hr (by decide) (by rfl) (pa_cons (pv 0) (pa_cons (pv 1) pa_nil))) pe_int) pe_int) (pe_op op_mul pe_int (pe_op op_add (pv 1) pe_int))) pe_int))
      (pss_cons (ps_set (i := 3) nd rfl (Or.inl rfl) (pe_op op_mod (pe_op op_add (pe_op op_mul (pv 3) (pv 3)) (pe_op op_fdiv (pv 3) pe_int)) pe_int))
      (pss_one (ps_ret (pe_op op_mod (pe_op op_fdiv (pe_op op_mod (pe_op op_add (pe_op op_mul (pv 3) (pv 3)) (pe_op op_fdiv (pv 3) pe_int)) pe_int) pe_int) (pv 2)))))), ?_⟩
    refine ⟨_, rfl, _, rfl, v, k, rfl, hS, fun H1 i s1 => ?_⟩
    refine ⟨_, _, rfl, rfl, (by show (0 : Int) < 2147483563; decide), _, _, rfl, rfl, cm_mod (by decide) (by decide), ?_⟩
    refine ⟨_, rfl, _, _, rfl, rfl, _, _, rfl, rfl, .inl ⟨by decide, by decide⟩, _, _, rfl, rfl, ?_⟩
    refine ⟨_, _, rfl, rfl, (by show (0 : Int) < 2147483563; decide), ?_⟩
    refine ⟨_, rfl, _, rfl, _, _, rfl, rfl, cm_mod (by decide) (by decide), ?_⟩
    refine ⟨_, rfl, _, _, rfl, rfl, ⟨by decide, by decide⟩, _, _, rfl, rfl, ?_⟩
    refine ⟨_, _, rfl, rfl, (by show (0 : Int) < 2147483399; decide), ?_⟩
    refine ⟨_, rfl, _, rfl, _, _, rfl, rfl, cm_mod (by decide) (by decide), ?_⟩
    refine ⟨_, rfl, _, _, rfl, rfl, ⟨by decide, by decide⟩, _, _, rfl, rfl, ?_⟩
    refine ⟨_, _, rfl, rfl, (by show (0 : Int) < 2147483647; decide), ?_⟩
    refine ⟨_, _, rfl, rfl, ⟨by decide, by decide⟩, ?_⟩
    exact ⟨_, rfl, _, m, rfl, rfl, hm, q _ _ s1 (emod_b _ hm).1 (emod_b _ hm).2⟩
theorem joinE : ∀ cs : List Nat, TL.joinL [] (cs.map fun c => [c]) = cs
  | [] => rfl
  | [c] => rfl
  | c :: d :: r => by
    have ih := joinE (d :: r)
    show [c] ++ ([] ++ TL.joinL [] ((d :: r).map fun c => [c])) = c :: d :: r
    rw [ih]
    rfl
theorem empS : ("" : Str) = SX.S [] := by decide +kernel
theorem join_signs (cs : List Nat) : Txt.join ("" : Str) (cs.map fun c => (⟨#[c]⟩ : Str)) = SX.S cs := by
  have e : (cs.map fun c => (⟨#[c]⟩ : Str)) = (cs.map fun c => [c]).map SX.S := by
    rw [List.map_map]
    rfl
  rw [e, empS, SX.join_S, joinE]
theorem nm_S {cs : List Nat} (h1 : 1 ≤ cs.length) (h2 : cs.length ≤ 6) (h : ∀ c ∈ cs, c ∈ lettersS.cps.toList) : Nm (SX.S cs) := by
  refine ⟨by rw [SX.S_len]; exact h1, by rw [SX.S_len]; exact h2, fun c hc => h c ?_⟩
  simpa [SX.S] using hc
theorem all2_rep {β : Type} {p : β → Prop} {f : β → V} : ∀ {xs : List V} {n : Nat}, All2 (fun v (_ : Unit) => ∃ b, v = f b ∧ p b) xs (List.replicate n ()) → ∃ bs : List β, xs = bs.map f ∧ bs.length = n ∧ ∀ b ∈ bs, p b
  | [], 0, _ => ⟨[], rfl, rfl, fun _ h => nomatch h⟩
  | x :: xs, n + 1, h => by
    obtain ⟨⟨b, e, hb⟩, h2⟩ := h
    obtain ⟨bs, e2, el, hp⟩ := all2_rep h2
    exact ⟨b :: bs, by rw [e, e2]; rfl, by rw [List.length_cons, el], fun c hc => by
      rcases List.mem_cons.mp hc with rfl | hc
      · exact hb
      · exact hp c hc⟩
  | [], _ + 1, h => h.elim
  | _ :: _, 0, h => h.elim
theorem letters_len : lettersS.cps.toList.length = 26 := by decide +kernel
theorem letters_sz : lettersS.length ≤ 100000 := by decide +kernel
def spNames (K : PySem.W.Frag) : Sp := fun vs H Q _ => ∃ (v : V) (k : Int), vs = [v, .int k] ∧ Scr K H v ∧ ∀ H' v' zs, Same H H' → IsStrs H' v' zs → zs.length = 3 → (∀ z ∈ zs, Nm z) → Q v' H'
theorem ok_names (D : DefF K mg "_law_names" s_law_names) (T : Tx mg) (c__law_drawn : C8.Cal P w K mg base 2 "_law_drawn" (spDrawn K) []) : C8.Cal P w K mg base 3 "_law_names" (spNames K) [] := by
  refine D.cal sc_law_names (fun _ _ _ _ _ _ us hl => match us, hl with | [_, _], _ => rfl) (fun vs H Q E h => ?_) (fun f cdv A outer s H vs Q E hr h => ?_)
  · obtain ⟨_, _, rfl, _⟩ := h
    rfl
  · obtain ⟨v, k0, rfl, hS, q⟩ := h
    have nd := sc_law_names.nd
    refine ⟨_, (pss_cons (ps_set (i := 2) nd rfl (Or.inl rfl) (pe_lst pa_nil))
      (pss_cons (ps_for PassesOwn.never rfl (pi_range1 (by rfl) T.b_range (pa_cons pe_int pa_nil)) (pg_name (i := 3) nd rfl (Or.inr rfl)) (pss_cons (ps_set (i := 4) nd rfl (Or.inl rfl) (pe_ix ix_list (pe_lst (pa_cons pe_int (pa_cons pe_int (pa_cons pe_int (pa_cons pe_int pa_nil))))) (C8.pe_c c__law_drawn hr (by decide) (by rfl) (pa_cons (pv 0) (pa_cons (pe_op op_add (pv 1) (pe_op op_mul pe_int (pv 3))) (pa_cons pe_int pa_nil)))) (fun _ _ => rfl)))
      (pss_cons (ps_setLc (i := 5) (own := [("_law_k", 6)]) (g := gName 6) rfl nd rfl rfl (sw_true rfl rfl rfl (by decide +kernel)) (pi_range1 (by rfl) T.b_range (pa_cons (pv 4) pa_nil)) (blkOk_by (N := N_law_names) (sc := defScope s_law_names) (by decide +kernel)) (fun _ _ _ _ _ => pg_name (i := 6) nd rfl (Or.inl rfl)) (fun _ _ _ _ _ => pts_nil) (fun _ _ _ _ _ => (C8.pe_c c__law_drawn hr (by decide) (by rfl) (pa_cons (pv 0) (pa_cons (pe_op op_add (pe_op op_add (pe_op op_add (pv 1) (pe_op op_mul pe_int (pv 3))) pe_int) (pv 6)) (pa_cons pe_int pa_nil))))))
      (pss_one (ps_expr (pe_bm PySem.F.plainAttrs_list PySem.F.slot_list_append PySem.F.type_list_append mt_append (pv 2) (pa_cons (pe_join pe_str (pe_lc (own := [("_law_sign", 7)]) (g := gName 7) rfl nd (pi_list (pv 5)) (blkOk_by (N := N_law_names) (sc := defScope s_law_names) (by decide +kernel)) (fun _ _ _ _ _ => pg_name (i := 7) nd rfl (Or.inl rfl)) (fun _ _ _ _ _ => pts_nil) (fun _ _ _ _ _ => (pe_ix ix_str pe_str (pv 7) (fun _ _ => rfl))))) pa_nil)))))))
      (pss_one (ps_ret (pv 2))))), ?_⟩
    refine ⟨Nat.zero_le _, fun l hl => ?_⟩
    refine ⟨_, rfl, by decide, by decide, for_it (walk_range (lo := 0) (n := (3 : Int).toNat)) (fun i σ H' => ∃ (zs : List Str) (u1 u2 u3 u4 u5 : Option V), σ = [some v, some (.int k0), some (.ref l), u1, u2, u3, u4, u5] ∧ Grow (fun _ v (z : Str) => v = V.str z) H H' l zs ∧ zs.length = i ∧ ∀ z ∈ zs, Nm z)
      ⟨[], none, none, none, none, none, rfl, Grow.start (Same.refl H) hl, rfl, fun _ h => nomatch h⟩ (fun _ _ _ _ _ => trivial) ?_ ?_⟩
    · rintro i x σ H1 H2 hi ⟨zs, _, _, _, _, _, rfl, g, lz, hz⟩ ⟨rfl, rfl⟩
      have hS1 := hS.sm g.sm
      -- size
      refine ⟨by show 4 ≤ sizeLine; decide, fun t ht => ?_⟩
      have s2 := sm_new (o := .lst [.int 1, .int 2, .int 6, .int 1]) ht
      refine ⟨_, rfl, _, rfl, _, rfl, _, _, rfl, rfl, .inl ⟨by decide, by decide⟩, _, _, rfl, rfl, v, _, 4, rfl, hS1.sm s2, by decide, fun H3 i3 s3 h30 h31 => ?_⟩
      have t3 := s2.trans s3
      have g3 := g.keep mEx t3
      obtain ⟨y, hy, ey⟩ := pickL (xs := [V.int 1, V.int 2, V.int 6, V.int 1]) h30 h31
      refine ⟨t, _, i3, y, rfl, rfl, sqL (s3 _ _ upd_same), ey, ?_⟩
      obtain ⟨m, rfl, hm1, hm2⟩ : ∃ m : Nat, y = .int (m : Int) ∧ 1 ≤ m ∧ m ≤ 6 := by
        simp only [List.mem_cons, List.not_mem_nil, or_false] at hy
        rcases hy with rfl | rfl | rfl | rfl
        · exact ⟨1, rfl, by decide, by decide⟩
        · exact ⟨2, rfl, by decide, by decide⟩
        · exact ⟨6, rfl, by decide, by decide⟩
        · exact ⟨1, rfl, by decide, by decide⟩
      have hS3 := hS1.sm t3
      -- signs
      refine ⟨_, rfl, _, rfl, by omega, by omega, fun D hD => ?_⟩
      refine lcw (walk_range (lo := 0) (n := ((m : Int)).toNat)) (R := fun _ v (_ : Unit) => ∃ b : Int, v = V.int b ∧ 0 ≤ b ∧ b < 26) (fun _ _ _ _ _ h => h) (List.replicate m ()) (by rw [List.length_replicate]; omega) hD (by omega) (fun _ _ => trivial) (fun j b x H0 H4 hj s0 y Q k => ?_) (fun H4 xs s4 h4 ha => ?_)
      · obtain ⟨rfl, rfl⟩ := y
        exact ⟨rfl, _, rfl, _, rfl, _, rfl, _, _, rfl, rfl, .inl ⟨by decide, by decide⟩, _, _, rfl, rfl, _, _, rfl, rfl, _, rfl, _, _, rfl, rfl, v, _, 26, rfl, hS3.sm s0, by decide, fun H5 i5 s5 h50 h51 => k _ _ s5 ⟨i5, rfl, h50, h51⟩⟩
      obtain ⟨bs, rfl, lbs, hbs⟩ := all2_rep (f := V.int) (p := fun b => 0 ≤ b ∧ b < 26) ha
      have g4 := g3.keep mEx s4
      obtain ⟨ws, h5, h6⟩ := g4.ls
      -- found.append
      refine ⟨_, rfl, .inl ⟨rfl, _, sqL h5⟩, ⟨_, rfl⟩, ?_⟩
      refine ⟨_, rfl, D, rfl, ⟨_, sqL h4⟩, fun D2 hD2 => ?_⟩
      refine lcw (walk_list (xs := bs.map V.int)) (R := fun _ v (_ : Unit) => ∃ c : Nat, v = V.str ⟨#[c]⟩ ∧ c ∈ lettersS.cps.toList) (fun _ _ _ _ _ h => h) (List.replicate m ()) (by rw [List.length_replicate, List.length_map, lbs]) hD2 (by rw [List.length_map]; omega) (fun _ s' => sqL (s' _ _ h4)) (fun j b x H0 H6 hj s0 y Q k => ?_) (fun H6 xs s6 h7 ha2 => ?_)
      · obtain ⟨rfl, hx⟩ := y
        rw [List.getElem?_map] at hx
        obtain ⟨b0, eb0, rfl⟩ := Option.map_eq_some_iff.mp hx
        obtain ⟨b1, b2⟩ := hbs b0 (List.mem_of_getElem? eb0)
        have hb3 : b0.toNat < lettersS.cps.toList.length := by rw [letters_len]; omega
        refine ⟨rfl, _, rfl, lettersS, b0, lettersS.cps.toList[b0.toNat], rfl, rfl, sz_le letters_sz, ?_, k _ _ (Same.refl _) ⟨_, rfl, List.getElem_mem hb3⟩⟩
        have e1 : ixN lettersS.cps.toList.length b0 = some b0.toNat := by
          unfold ixN
          rw [if_pos b1, if_pos (by rw [letters_len]; omega)]
        unfold atI
        rw [e1, Option.bind_some]
        exact List.getElem?_eq_getElem hb3
      obtain ⟨cs, ecs, lcs, hcs⟩ := all2_rep (f := fun c => V.str ⟨#[c]⟩) (p := fun c => c ∈ lettersS.cps.toList) ha2
      have e6 : xs = (cs.map fun c => (⟨#[c]⟩ : Str)).map V.str := by
        rw [ecs, List.map_map]
        rfl
      have el0 : (("" : Str)).length = 0 := by decide +kernel
      refine ⟨"", D2, cs.map fun c => (⟨#[c]⟩ : Str), rfl, rfl, .inl (sqL (e6 ▸ h7)), ?_, ?_⟩
      · rw [sum_ones, List.length_map, el0]
        omega
      rw [join_signs]
      have g6 := g4.keep mEx s6
      obtain ⟨ws6, h8, h9⟩ := g6.ls
      have hi3 : i < 3 := hi
      refine ⟨l, ws6, _, rfl, rfl, h8, sz_lt (by rw [h9.len]; omega), ?_⟩
      refine ⟨zs ++ [SX.S cs], _, _, _, _, _, rfl, g6.more mEx h8 h9 (.one rfl), by rw [List.length_append, lz]; rfl, fun z hz2 => ?_⟩
      rcases List.mem_append.mp hz2 with hz2 | hz2
      · exact hz z hz2
      · rw [List.mem_singleton.mp hz2]
        exact nm_S (by omega) (by omega) hcs
    · rintro σ H1 ⟨zs, _, _, _, _, _, rfl, g, lz, hz⟩
      obtain ⟨ws, h1, h2⟩ := g.ls
      refine ⟨_, rfl, q _ _ zs g.sm ⟨l, rfl, ?_⟩ lz hz⟩
      rw [← all2_map (f := V.str) h2]
      exact h1
end
end K62
/-! K62, the walk, tenth part: the law's pieces, rows, films, least rows. -/
namespace K62
open PySem PySem.Spec PyProof.Rows L2
theorem walk_r0 {n : Nat} : Walk (Itr 0 n) n (fun _ => True) (fun i H x H' => H' = H ∧ x = V.int (i : Int)) :=
  (walk_range (lo := 0) (n := n)).mono (fun _ h => h) fun i H x H' _ _ y => ⟨y.1, y.2.trans (congrArg V.int (Int.zero_add _))⟩
/-! ### tests, told at once -/
def T0 (t : TT) (σ : L2.St) (H : Hp) (b : Bool) : Prop := ∀ Q : Bool → Hp → Prop, Q b H → t σ H Q
theorem t0_and {t u : TT} {σ : L2.St} {H : Hp} {a b : Bool} (h1 : T0 t σ H a) (h2 : a = true → T0 u σ H b) : T0 (tAnd t u) σ H (a && b) := fun Q q => h1 _ (by
  cases a with
  | true => exact h2 rfl Q q
  | false => exact q)
theorem if_t0 {c : TT} {t u : L2.TS} {D : Ends} {σ : L2.St} {H : Hp} {b : Bool} (h : T0 c σ H b) (ht : b = true → t D σ H) (hf : b = false → u D σ H) : tIfS c t u D σ H := h _ (by
  cases b with
  | true => exact ht rfl
  | false => exact hf rfl)
theorem pick2 {a b : Int} {c : Prop} [Decidable c] : atI [V.int a, V.int b] (if decide c = true then 1 else 0) = some (V.int (if c then b else a)) := by
  by_cases h : c
  · rw [decide_eq_true h, if_pos rfl, if_pos h]
    rfl
  · rw [decide_eq_false h, if_neg Bool.false_ne_true, if_neg h]
    rfl
theorem first_ok {m s spot low high f : Int} (h1 : 1 ≤ m) (h9 : m ≤ 9) (s0 : -1 ≤ s) (s1 : s ≤ 1) (hl : low = if s = -1 then m - 1 else 0) (hh : high = if s = 1 then 10000 - m else 9999) (p0 : 0 ≤ spot) (p1 : spot < 10000)
    (hf : f = low + spot % 4 ∨ f = high - spot % 4 ∨ f = low + spot % (high - low + 1)) : 0 ≤ f ∧ f ≤ 9999 ∧ 0 ≤ f + s * (m - 1) ∧ f + s * (m - 1) ≤ 9999 := by
  have hd : 0 < high - low + 1 := by
    rw [hl, hh]
    split <;> split <;> omega
  obtain ⟨e1, e2⟩ := emod_b spot hd
  obtain ⟨e3, e4⟩ := emod_b spot (c := 4) (by decide)
  generalize spot % (high - low + 1) = z at e1 e2 hf
  generalize spot % 4 = y at e3 e4 hf
  rcases three s0 s1 with e | e | e <;> subst e <;> simp at hl hh <;> subst hl <;> subst hh <;> omega
section
variable {P : Program} {w : World} {K : PySem.W.Frag} {mg : Str → Option Value} {base : Heap}
def spLPiece (K : PySem.W.Frag) : Sp := fun vs H Q _ => ∃ (v u : V) (k : Int) (zs : List Str), vs = [v, .int k, u] ∧ Scr K H v ∧ IsStrs H u zs ∧ zs.length = 3 ∧ (∀ z ∈ zs, Nm z) ∧ ∀ H' v' p, Same H H' → IsPc H' v' p → VPx p → p.m ≤ 9 → Q v' H'
theorem ok_lpiece (D : DefF K mg "_law_piece" s_law_piece) (T : Tx mg) (c__law_drawn : C8.Cal P w K mg base 2 "_law_drawn" (spDrawn K) []) : C8.Cal P w K mg base 3 "_law_piece" (spLPiece K) [] := by
  refine D.cal sc_law_piece (fun _ _ _ _ _ _ us hl => match us, hl with | [_, _, _], _ => rfl) (fun vs H Q E h => ?_) (fun f cdv A outer s H vs Q E hr h => ?_)
  · obtain ⟨_, _, _, _, rfl, _⟩ := h
    rfl
  · obtain ⟨v, u, k0, zs, rfl, hS, hN, lz, hz, q⟩ := h
    have nd := sc_law_piece.nd
    refine ⟨_, (pss_cons (ps_set (i := 3) nd rfl (Or.inl rfl) (pe_op op_add pe_int (C8.pe_c c__law_drawn hr (by decide) (by rfl) (pa_cons (pv 0) (pa_cons (pv 1) (pa_cons (pe_ix ix_list (pe_lst (pa_cons pe_int (pa_cons pe_int (pa_cons pe_int pa_nil)))) (C8.pe_c c__law_drawn hr (by decide) (by rfl) (pa_cons (pv 0) (pa_cons (pe_op op_add (pv 1) pe_int) (pa_cons pe_int pa_nil)))) (fun _ _ => rfl)) pa_nil))))))
      (pss_cons (ps_if (pt_cmpR op_eq (C8.pe_c c__law_drawn hr (by decide) (by rfl) (pa_cons (pv 0) (pa_cons (pe_op op_add (pv 1) pe_int) (pa_cons pe_int pa_nil)))) pe_int (nomark _)) (pss_one (ps_ret (pe_tup (pa_cons pe_str (pa_cons pe_int (pa_cons pe_int (pa_cons (pv 3) pa_nil))))))) pss_nil)
      (pss_cons (ps_set (i := 4) nd rfl (Or.inl rfl) (pe_op op_sub (C8.pe_c c__law_drawn hr (by decide) (by rfl) (pa_cons (pv 0) (pa_cons (pe_op op_add (pv 1) pe_int) (pa_cons pe_int pa_nil)))) pe_int))
      (pss_cons (ps_set (i := 5) nd rfl (Or.inl rfl) (pe_ix ix_list (pe_lst (pa_cons pe_int (pa_cons (pe_op op_sub (pv 3) pe_int) pa_nil))) (pe_callTy call_int1 (by rfl) T.b_int bt_int (pa_cons (pe_cmpR op_eq (pv 4) (pe_un un_neg pe_int) (nomark _)) pa_nil)) (fun _ _ => rfl)))
      (pss_cons (ps_set (i := 6) nd rfl (Or.inl rfl) (pe_ix ix_list (pe_lst (pa_cons pe_int (pa_cons (pe_op op_sub pe_int (pv 3)) pa_nil))) (pe_callTy call_int1 (by rfl) T.b_int bt_int (pa_cons (pe_cmpR op_eq (pv 4) pe_int (nomark _)) pa_nil)) (fun _ _ => rfl)))
      (pss_cons (ps_set (i := 7) nd rfl (Or.inl rfl) (C8.pe_c c__law_drawn hr (by decide) (by rfl) (pa_cons (pv 0) (pa_cons (pe_op op_add (pv 1) pe_int) (pa_cons pe_int pa_nil)))))
      (pss_cons (ps_set (i := 8) nd rfl (Or.inl rfl) (pe_ix ix_list (pe_lst (pa_cons (pe_op op_add (pv 5) (pe_op op_mod (pv 7) pe_int)) (pa_cons (pe_op op_sub (pv 6) (pe_op op_mod (pv 7) pe_int)) (pa_cons (pe_op op_add (pv 5) (pe_op op_mod (pv 7) (pe_op op_add (pe_op op_sub (pv 6) (pv 5)) pe_int))) pa_nil)))) (C8.pe_c c__law_drawn hr (by decide) (by rfl) (pa_cons (pv 0) (pa_cons (pe_op op_add (pv 1) pe_int) (pa_cons pe_int pa_nil)))) (fun _ _ => rfl)))
      (pss_one (ps_ret (pe_tup (pa_cons (pe_ix ix_list (pv 2) (pe_op op_mod (pv 7) pe_int) (fun _ _ => rfl)) (pa_cons (pv 8) (pa_cons (pv 4) (pa_cons (pv 3) pa_nil)))))))))))))), ?_⟩
    -- many
    refine ⟨_, rfl, _, rfl, by show 3 ≤ sizeLine; decide, fun t ht => ?_⟩
    have s1 := sm_new (o := .lst [.int 3, .int 9, .int 1]) ht
    refine ⟨_, rfl, _, rfl, _, _, rfl, rfl, v, _, 3, rfl, hS.sm s1, by decide, fun H2 i2 s2 h20 h21 => ?_⟩
    obtain ⟨y, hy, ey⟩ := pickL (xs := [V.int 3, V.int 9, V.int 1]) h20 h21
    obtain ⟨n, rfl, n1, n9⟩ : ∃ n : Int, y = .int n ∧ 1 ≤ n ∧ n ≤ 9 := by
      simp only [List.mem_cons, List.not_mem_nil, or_false] at hy
      rcases hy with rfl | rfl | rfl <;> exact ⟨_, rfl, by decide, by decide⟩
    refine ⟨t, _, i2, _, rfl, rfl, sqL (s2 _ _ upd_same), ey, ?_⟩
    have t2 := s1.trans s2
    refine ⟨v, _, n, rfl, hS.sm t2, by omega, fun H3 i3 s3 h30 h31 => ⟨_, _, rfl, rfl, ?_⟩⟩
    have t3 := t2.trans s3
    obtain ⟨m, hm⟩ : ∃ m : Nat, (1 : Int) + i3 = (m : Int) := ⟨(1 + i3).toNat, by omega⟩
    dsimp only
    rw [hm]
    have m1 : 1 ≤ m := by omega
    have m9 : m ≤ 9 := by omega
    -- black
    refine ⟨_, rfl, _, rfl, _, _, rfl, rfl, v, _, 6, rfl, hS.sm t3, by decide, fun H4 i4 s4 h40 h41 => ⟨rfl, _, rfl, ?_⟩⟩
    have t4 := t3.trans s4
    by_cases hb : i4 = 0
    · refine iteB (decide_eq_true (congrArg V.int hb)) ⟨_, rfl, by show 4 ≤ sizeLine; decide, fun t ht => ?_⟩
      exact q _ _ ⟨"", 0, 0, m⟩ (t4.trans (sm_new ht)) ⟨t, rfl, upd_same⟩ ⟨Int.le_refl 0, (by show (0 : Int) ≤ 9999; decide), (by show (-1 : Int) ≤ 0; decide), (by show (0 : Int) ≤ 1; decide), m1, by show m ≤ 3000; omega, .inl ⟨rfl, rfl, rfl⟩⟩ m9
    refine iteC (decide_eq_false fun z => hb (by injection z)) ?_
    -- step
    refine ⟨_, rfl, _, rfl, _, _, rfl, rfl, v, _, 3, rfl, hS.sm t4, by decide, fun H5 i5 s5 h50 h51 => ⟨_, _, rfl, rfl, ?_⟩⟩
    have t5 := t4.trans s5
    obtain ⟨sp, hsp⟩ : ∃ sp : Int, i5 - 1 = sp := ⟨_, rfl⟩
    dsimp only
    rw [hsp]
    -- low
    refine ⟨_, rfl, _, _, rfl, rfl, by show 2 ≤ sizeLine; decide, fun tl htl => ?_⟩
    have s6 := sm_new (o := .lst [.int 0, .int ((m : Int) - 1)]) htl
    refine ⟨_, rfl, _, rfl, rfl, .inr ⟨_, rfl, tl, _, _, _, rfl, rfl, sqL upd_same, pick2, ?_⟩⟩
    have t6 := t5.trans s6
    obtain ⟨low, hlow⟩ : ∃ low : Int, (if V.int sp = V.int (-1) then (m : Int) - 1 else 0) = low := ⟨_, rfl⟩
    dsimp only
    rw [hlow]
    -- high
    refine ⟨_, rfl, _, _, rfl, rfl, by show 2 ≤ sizeLine; decide, fun th hth => ?_⟩
    refine ⟨_, rfl, rfl, .inr ⟨_, rfl, th, _, _, _, rfl, rfl, sqL upd_same, pick2, ?_⟩⟩
    have s7 := sm_new (o := .lst [.int 9999, .int (10000 - (m : Int))]) hth
    have t7 := t6.trans s7
    obtain ⟨high, hhigh⟩ : ∃ high : Int, (if V.int sp = V.int 1 then 10000 - (m : Int) else 9999) = high := ⟨_, rfl⟩
    dsimp only
    rw [hhigh]
    have hlow2 : low = if sp = -1 then (m : Int) - 1 else 0 := by
      rw [← hlow]
      by_cases h : sp = -1
      · rw [if_pos (congrArg V.int h), if_pos h]
      · rw [if_neg (fun z => h (by injection z)), if_neg h]
    have hhigh2 : high = if sp = 1 then 10000 - (m : Int) else 9999 := by
      rw [← hhigh]
      by_cases h : sp = 1
      · rw [if_pos (congrArg V.int h), if_pos h]
      · rw [if_neg (fun z => h (by injection z)), if_neg h]
    have hd : 0 < high - low + 1 := by
      rw [hlow2, hhigh2]
      split <;> split <;> omega
    -- spot
    refine ⟨_, rfl, _, rfl, _, _, rfl, rfl, v, _, 10000, rfl, hS.sm t7, by decide, fun H8 spot s8 h80 h81 => ?_⟩
    have t8 := t7.trans s8
    -- first
    refine ⟨_, rfl, _, rfl, _, _, rfl, rfl, (by show (0 : Int) < 4; decide), _, _, rfl, rfl, ?_⟩
    refine ⟨_, rfl, _, rfl, _, _, rfl, rfl, (by show (0 : Int) < 4; decide), _, _, rfl, rfl, ?_⟩
    refine ⟨_, rfl, _, rfl, _, rfl, _, rfl, _, _, rfl, rfl, _, _, rfl, rfl, _, _, rfl, rfl, hd, _, _, rfl, rfl, by show 3 ≤ sizeLine; decide, fun tf htf => ?_⟩
    have s9 := sm_new (o := .lst [.int (low + spot % 4), .int (high - spot % 4), .int (low + spot % (high - low + 1))]) htf
    have t9 := t8.trans s9
    refine ⟨_, rfl, _, rfl, _, _, rfl, rfl, v, _, 3, rfl, hS.sm t9, by decide, fun H10 i10 s10 h100 h101 => ?_⟩
    have t10 := t9.trans s10
    obtain ⟨y, hy, ey⟩ := pickL (xs := [V.int (low + spot % 4), V.int (high - spot % 4), V.int (low + spot % (high - low + 1))]) h100 h101
    obtain ⟨fi, rfl, hfi⟩ : ∃ fi : Int, y = .int fi ∧ (fi = low + spot % 4 ∨ fi = high - spot % 4 ∨ fi = low + spot % (high - low + 1)) := by
      simp only [List.mem_cons, List.not_mem_nil, or_false] at hy
      rcases hy with rfl | rfl | rfl
      · exact ⟨_, rfl, .inl rfl⟩
      · exact ⟨_, rfl, .inr (.inl rfl)⟩
      · exact ⟨_, rfl, .inr (.inr rfl)⟩
    refine ⟨tf, _, i10, _, rfl, rfl, sqL (s10 _ _ upd_same), ey, ?_⟩
    obtain ⟨f1, f2, f3, f4⟩ := first_ok (m := (m : Int)) (by omega) (by omega) (by omega) (by omega) hlow2 hhigh2 h80 h81 hfi
    -- the name
    obtain ⟨a, rfl, hna⟩ := hN
    obtain ⟨b1, b2⟩ := emod_b spot (c := 3) (by decide)
    obtain ⟨y, hy, ey⟩ := pickL (xs := zs.map V.str) b1 (by rw [List.length_map, lz]; exact b2)
    obtain ⟨z, hzm, rfl⟩ := List.mem_map.mp hy
    refine ⟨_, rfl, _, rfl, _, _, rfl, rfl, (by show (0 : Int) < 3; decide), a, _, _, _, rfl, rfl, sqL (t10 _ _ hna), ey, ?_⟩
    refine ⟨_, rfl, _, rfl, _, rfl, by show 4 ≤ sizeLine; decide, fun t ht => ?_⟩
    exact q _ _ ⟨z, fi, sp, m⟩ (t10.trans (sm_new ht)) ⟨t, rfl, upd_same⟩ ⟨f1, f2, by show -1 ≤ sp; omega, by show sp ≤ 1; omega, m1, by show m ≤ 3000; omega, .inr ⟨hz z hzm, f3, f4⟩⟩ m9
end
end K62
/-! K62, the walk, eleventh part: the law's rows, films, least rows. -/
namespace K62
open PySem PySem.Spec PyProof.Rows L2
theorem all2_last {α β : Type} {R : α → β → Prop} {xs : List α} {as : List β} {a : β} (h : All2 R xs (as ++ [a])) : ∃ ys y, xs = ys ++ [y] ∧ All2 R ys as ∧ R y a := by
  induction as generalizing xs with
  | nil =>
    cases xs with
    | nil => exact h.elim
    | cons x r =>
      cases r with
      | nil => exact ⟨[], x, rfl, trivial, h.1⟩
      | cons _ _ => exact h.2.elim
  | cons b as ih =>
    cases xs with
    | nil => exact h.elim
    | cons x r =>
      obtain ⟨ys, y, rfl, h1, h2⟩ := ih h.2
      exact ⟨x :: ys, y, rfl, ⟨h.1, h1⟩, h2⟩
theorem goes_on {q p : Ps} (vq : VPx q) (vp : VPx p) (h0 : 0 ≤ q.f + q.s * (q.m : Int)) (h1 : q.f + q.s * (q.m : Int) + (p.m : Int) ≤ 10000) (h2 : -1 ≤ q.f + q.s * (q.m : Int) - (p.m : Int)) : VPx ⟨q.n, q.f + q.s * (q.m : Int), q.s, p.m⟩ := by
  have p0 := vp.m0
  have p1 := vp.m1
  refine ⟨h0, ?_, vq.s0, vq.s1, p0, p1, ?_⟩
  · show q.f + q.s * (q.m : Int) ≤ 9999
    omega
  · rcases vq.nm with ⟨a, b, c⟩ | ⟨a, _, _⟩
    · refine .inl ⟨a, ?_, c⟩
      show q.f + q.s * (q.m : Int) = 0
      rw [b, c]
      omega
    · refine .inr ⟨a, ?_⟩
      show 0 ≤ q.f + q.s * (q.m : Int) + q.s * ((p.m : Int) - 1) ∧ q.f + q.s * (q.m : Int) + q.s * ((p.m : Int) - 1) ≤ 9999
      rcases three vq.s0 vq.s1 with e | e | e <;> rw [e] at h0 h1 h2 ⊢ <;> omega
section
variable {P : Program} {w : World} {K : PySem.W.Frag} {mg : Str → Option Value} {base : Heap}
def spLRow (K : PySem.W.Frag) : Sp := fun vs H Q _ => ∃ (v u : V) (k n : Int) (zs : List Str), vs = [v, .int k, .int n, u] ∧ Scr K H v ∧ 0 ≤ n ∧ n ≤ 10 ∧ IsStrs H u zs ∧ zs.length = 3 ∧ (∀ z ∈ zs, Nm z) ∧
  ∀ H' v' ps, Same H H' → IsRow H' v' ps → (∀ p ∈ ps, VPx p) → (∀ p ∈ ps, p.m ≤ 9) → (ps.length : Int) ≤ n → Q v' H'
theorem ok_lrow (D : DefF K mg "_law_row" s_law_row) (T : Tx mg) (c__law_drawn : C8.Cal P w K mg base 2 "_law_drawn" (spDrawn K) []) (c__law_piece : C8.Cal P w K mg base 3 "_law_piece" (spLPiece K) []) : C8.Cal P w K mg base 4 "_law_row" (spLRow K) [] := by
  refine D.cal sc_law_row (fun _ _ _ _ _ _ us hl => match us, hl with | [_, _, _, _], _ => rfl) (fun vs H Q E h => ?_) (fun f cdv A outer s H vs Q E hr h => ?_)
  · obtain ⟨_, _, _, _, _, rfl, _⟩ := h
    rfl
  · obtain ⟨v, u, k0, n0, zs, rfl, hS, hn0, hn1, hN, lz, hz, q⟩ := h
    have nd := sc_law_row.nd
    refine ⟨_, (pss_cons (ps_set (i := 4) nd rfl (Or.inl rfl) (pe_lst pa_nil))
      (pss_cons (ps_for PassesOwn.never rfl (pi_range1 (by rfl) T.b_range (pa_cons (C8.pe_c c__law_drawn hr (by decide) (by rfl) (pa_cons (pv 0) (pa_cons (pv 1) (pa_cons (pe_op op_add (pv 2) pe_int) pa_nil)))) pa_nil)) (pg_name (i := 5) nd rfl (Or.inl rfl)) (pss_cons (ps_set (i := 6) nd rfl (Or.inl rfl) (C8.pe_c c__law_piece hr (by decide) (by rfl) (pa_cons (pv 0) (pa_cons (pe_op op_add (pe_op op_add (pv 1) pe_int) (pe_op op_mul pe_int (pv 5))) (pa_cons (pv 3) pa_nil)))))
      (C8.pss_cut (ps_if (PW.pt (pw_and (pt_cmpR op_gt (pv 5) pe_int (nomark _)) (pw_and1 (pt_cmpR op_eq (C8.pe_c c__law_drawn hr (by decide) (by rfl) (pa_cons (pv 0) (pa_cons (pe_op op_add (pe_op op_add (pv 1) pe_int) (pe_op op_mul pe_int (pv 5))) (pa_cons pe_int pa_nil)))) pe_int (nomark _))))) (pss_cons (ps_asg (pe_ix ix_list (pv 4) (pe_un un_neg pe_int) (fun _ _ => rfl)) (pg_tup rfl (pgs_cons (pg_name (i := 7) nd rfl (Or.inl rfl)) (pgs_cons (pg_name (i := 8) nd rfl (Or.inl rfl)) (pgs_cons (pg_name (i := 9) nd rfl (Or.inl rfl)) (pgs_cons (pg_name (i := 10) nd rfl (Or.inl rfl)) pgs_nil))))))
      (pss_cons (ps_set (i := 11) nd rfl (Or.inl rfl) (pe_op op_add (pv 8) (pe_op op_mul (pv 9) (pv 10))))
      (pss_one (ps_if (PW.pt (pw_and (pt_cmpR op_le pe_int (pv 11) (nomark _)) (pw_and (pt_cmpR op_le (pe_op op_add (pv 11) (pe_ix ix_tup (pv 6) pe_int (fun _ _ => rfl))) pe_int (nomark _)) (pw_and1 (pt_cmpR op_ge (pe_op op_sub (pv 11) (pe_ix ix_tup (pv 6) pe_int (fun _ _ => rfl))) (pe_un un_neg pe_int) (nomark _)))))) (pss_one (ps_set (i := 6) nd rfl (Or.inl rfl) (pe_tup (pa_cons (pv 7) (pa_cons (pv 11) (pa_cons (pv 9) (pa_cons (pe_ix ix_tup (pv 6) pe_int (fun _ _ => rfl)) pa_nil))))))) pss_nil)))) pss_nil)
      (pss_one (ps_expr (pe_bm PySem.F.plainAttrs_list PySem.F.slot_list_append PySem.F.type_list_append mt_append (pv 4) (pa_cons (pv 6) pa_nil)))))))
      (pss_one (ps_ret (pe_callTy call_tuple_of (by rfl) T.b_tuple bt_tuple (pa_cons (pv 4) pa_nil)))))), ?_⟩
    refine ⟨Nat.zero_le _, fun l hl => ?_⟩
    have s1 := sm_new (o := .lst []) hl
    refine ⟨_, rfl, _, rfl, _, rfl, _, _, rfl, rfl, v, _, _, rfl, hS.sm s1, by omega, fun H2 i2 s2 h20 h21 => ⟨_, rfl, by omega, by omega, ?_⟩⟩
    have g2 : Grow IsPc H H2 l [] := (Grow.start (Same.refl H) hl).keep mPc s2
    refine for_it (walk_r0 (n := i2.toNat)) (fun i σ H' => ∃ (ps : List Ps) (w0 w1 w2 w3 w4 w5 w6 : Option V), σ = [some v, some (.int k0), some (.int n0), some u, some (.ref l), w0, w1, w2, w3, w4, w5, w6] ∧ Grow IsPc H H' l ps ∧ ps.length = i ∧ (∀ p ∈ ps, VPx p) ∧ ∀ p ∈ ps, p.m ≤ 9)
      ⟨[], none, none, none, none, none, none, none, rfl, g2, rfl, (fun _ h => nomatch h), fun _ h => nomatch h⟩ (fun _ _ _ _ _ => trivial) ?_ ?_
    · rintro i x σ H3 H4 hi ⟨ps, _, _, _, _, _, _, _, rfl, g, lp, vp, mp⟩ ⟨rfl, rfl⟩
      have hS3 := hS.sm g.sm
      -- piece_here
      refine ⟨_, rfl, _, rfl, _, _, rfl, rfl, _, rfl, _, _, rfl, rfl, .inl ⟨by decide, by decide⟩, _, _, rfl, rfl, _, rfl, v, u, _, zs, rfl, hS3, hN.sm g.sm, lz, hz, fun H5 v5 p s5 r5 vp5 mp5 => ?_⟩
      have g5 := g.keep mPc s5
      refine ⟨fun σ' H' => ∃ (vp' : V) (p' : Ps) (w2 w3 w4 w5 w6 : Option V), σ' = [some v, some (.int k0), some (.int n0), some u, some (.ref l), some (.int (i : Int)), some vp', w2, w3, w4, w5, w6] ∧ Grow IsPc H H' l ps ∧ IsPc H' vp' p' ∧ VPx p' ∧ p'.m ≤ 9, ?_, ?_⟩
      rotate_left
      · rintro σ' H' ⟨vp', p', _, _, _, _, _, rfl, g', r', v', m'⟩
        obtain ⟨xs, h1, h2⟩ := g'.ls
        refine ⟨_, rfl, .inl ⟨rfl, _, sqL h1⟩, _, rfl, l, xs, vp', rfl, rfl, h1, sz_lt (by rw [h2.len]; omega), ?_⟩
        refine ⟨ps ++ [p'], _, _, _, _, _, _, _, rfl, g'.more mPc h1 h2 (.one r'), by rw [List.length_append, lp]; rfl, fun p hp => ?_, fun p hp => ?_⟩
        · rcases List.mem_append.mp hp with hp | hp
          · exact vp p hp
          · rw [List.mem_singleton.mp hp]
            exact v'
        · rcases List.mem_append.mp hp with hp | hp
          · exact mp p hp
          · rw [List.mem_singleton.mp hp]
            exact m'
      -- if k > 0 and drawn == 0
      refine ⟨_, rfl, _, _, rfl, rfl, _, rfl, ?_⟩
      by_cases hi0 : (0 : Int) < (i : Int)
      rotate_left
      · exact iteC (decide_eq_false hi0) (iteF ⟨v5, p, _, _, _, _, _, rfl, g5, r5, vp5, mp5⟩)
      refine iteB (decide_eq_true hi0) ?_
      refine ⟨_, rfl, _, rfl, _, _, rfl, rfl, _, rfl, _, _, rfl, rfl, .inl ⟨by decide, by decide⟩, _, _, rfl, rfl, v, _, 3, rfl, hS3.sm s5, by decide, fun H6 i6 s6 h60 h61 => ⟨rfl, _, rfl, ?_⟩⟩
      have g6 := g5.keep mPc s6
      have r6 := r5.ts (ts_of s6)
      by_cases h6 : i6 = 0
      rotate_left
      · exact iteC (decide_eq_false fun z => h6 (by injection z)) ⟨v5, p, _, _, _, _, _, rfl, g6, r6, vp5, mp5⟩
      refine iteB (decide_eq_true (congrArg V.int h6)) ?_
      -- found[-1]
      obtain ⟨ps0, q0, eps⟩ : ∃ ps0 q0, ps = ps0 ++ [q0] := by
        have hne : ps ≠ [] := fun e => by
          rw [e] at lp
          simp at lp
          omega
        exact ⟨_, _, (List.dropLast_concat_getLast hne).symm⟩
      obtain ⟨xs, h7, h8⟩ := g6.ls
      rw [eps] at h8
      obtain ⟨ys, y, rfl, h9, ⟨c, rfl, hc⟩⟩ := all2_last h8
      have vq := vp q0 (by rw [eps]; simp)
      have q3 := vq.s0
      have q4 := vq.s1
      refine ⟨_, rfl, _, rfl, l, _, _, _, rfl, rfl, sqL h7, atI_last ys (.ref c), c, _, rfl, sqT hc, rfl, _, _, rfl, _, _, rfl, _, _, rfl, _, _, rfl, rfl, ?_⟩
      -- behind
      refine ⟨_, rfl, _, rfl, _, rfl, _, _, rfl, rfl, .inl ⟨by omega, by omega⟩, _, _, rfl, rfl, ?_⟩
      obtain ⟨c5, rfl, hc5⟩ := r6
      -- the test
      dsimp only [gName]
      refine if_t0 (t0_and (a := decide (0 ≤ q0.f + q0.s * (q0.m : Int))) (b := decide (q0.f + q0.s * (q0.m : Int) + (p.m : Int) ≤ 10000) && decide (-1 ≤ q0.f + q0.s * (q0.m : Int) - (p.m : Int))) (fun Q qq => ⟨_, rfl, _, _, rfl, rfl, _, rfl, qq⟩) fun _ => t0_and (fun Q qq => ?_) fun _ => fun Q qq => ?_) (fun hb => ?_) fun hb => ?_
      · exact ⟨_, rfl, _, rfl, c5, _, _, _, rfl, rfl, sqT hc5, atI_nat (j := 3) rfl, _, _, rfl, rfl, _, _, rfl, rfl, _, rfl, qq⟩
      · exact ⟨_, rfl, _, rfl, c5, _, _, _, rfl, rfl, sqT hc5, atI_nat (j := 3) rfl, _, _, rfl, rfl, _, rfl, _, _, rfl, rfl, _, rfl, qq⟩
      · simp only [Bool.and_eq_true, decide_eq_true_eq] at hb
        refine ⟨_, rfl, _, rfl, _, rfl, _, rfl, c5, _, _, _, rfl, rfl, sqT hc5, atI_nat (j := 3) rfl, by show 4 ≤ sizeLine; decide, fun t ht => ?_⟩
        exact ⟨.ref t, ⟨q0.n, q0.f + q0.s * (q0.m : Int), q0.s, p.m⟩, _, _, _, _, _, rfl, g6.keep mPc (sm_new ht), ⟨t, rfl, upd_same⟩, goes_on vq vp5 hb.1 hb.2.1 hb.2.2, mp5⟩
      · exact ⟨.ref c5, p, _, _, _, _, _, rfl, g6, ⟨c5, rfl, hc5⟩, vp5, mp5⟩
    · rintro σ H3 ⟨ps, _, _, _, _, _, _, _, rfl, g, lp, vp, mp⟩
      obtain ⟨xs, h1, h2⟩ := g.ls
      refine ⟨_, rfl, l, xs, rfl, .inl ⟨sqL h1, fun r hr => ?_⟩⟩
      have s4 := sm_new (o := .tup xs) hr
      exact q _ _ ps (g.sm.trans s4) ⟨r, xs, rfl, upd_same, h2.mono fun _ _ z => z.ts (ts_of s4)⟩ vp mp (by omega)
def spLFilm : Sp := fun vs H Q _ => ∃ (v : V) (ps : List Ps), vs = [v] ∧ IsRow H v ps ∧ VRw ps ∧ ∀ H' v', Same H H' → IsFilm H' v' (film ps) → Q v' H'
theorem ok_lfilm (D : DefF K mg "_law_film" s_law_film) (T : Tx mg) : C8.Cal P w K mg base 1 "_law_film" spLFilm [] := by
  refine D.cal sc_law_film (fun _ _ _ _ _ _ us hl => match us, hl with | [_], _ => rfl) (fun vs H Q E h => ?_) (fun f cdv A outer s H vs Q E hr h => ?_)
  · obtain ⟨_, _, rfl, _⟩ := h
    rfl
  · obtain ⟨_, ps, rfl, ⟨a, xs, rfl, hp, ha⟩, vr, q⟩ := h
    have nd := sc_law_film.nd
    refine ⟨_, (pss_cons (ps_set (i := 1) nd rfl (Or.inl rfl) (pe_lst pa_nil))
      (pss_cons (ps_for PassesOwn.never rfl (pi_tup (pv 0)) (pg_tup rfl (pgs_cons (pg_name (i := 2) nd rfl (Or.inl rfl)) (pgs_cons (pg_name (i := 3) nd rfl (Or.inl rfl)) (pgs_cons (pg_name (i := 4) nd rfl (Or.inl rfl)) (pgs_cons (pg_name (i := 5) nd rfl (Or.inl rfl)) pgs_nil))))) (pss_one (ps_for PassesOwn.never rfl (pi_range1 (by rfl) T.b_range (pa_cons (pv 5) pa_nil)) (pg_name (i := 6) nd rfl (Or.inl rfl)) (pss_one (ps_expr (pe_bm PySem.F.plainAttrs_list PySem.F.slot_list_append PySem.F.type_list_append mt_append (pv 1) (pa_cons (pe_tup (pa_cons (pv 2) (pa_cons (pe_op op_add (pv 3) (pe_op op_mul (pv 4) (pv 6))) pa_nil))) pa_nil)))))))
      (pss_one (ps_ret (pv 1))))), ?_⟩
    refine ⟨Nat.zero_le _, fun l hl => ?_⟩
    refine ⟨_, rfl, a, rfl, ⟨xs, sqT (sm_new hl _ _ hp)⟩, for_it (walk_tup (xs := xs)) (fun i σ H' => ∃ (u1 u2 u3 u4 u5 : Option V), σ = [some (.ref a), some (.ref l), u1, u2, u3, u4, u5] ∧ Grow IsFr H H' l (film (ps.take i))) ⟨none, none, none, none, none, rfl, Grow.start (Same.refl H) hl⟩ ?_ ?_ ?_⟩
    · rintro i σ H' _ ⟨_, _, _, _, _, rfl, g⟩
      exact sqT (g.sm _ _ hp)
    · rintro i x σ H1 H2 hi ⟨_, _, _, _, _, rfl, g⟩ ⟨rfl, hx⟩
      obtain ⟨p, ep, ⟨c, rfl, hc⟩⟩ := ha.get hx
      have vp := vr.1 p (List.mem_of_getElem? ep)
      have v3 := vp.s0
      have v4 := vp.s1
      have v5 := vp.m1
      have lt := len_take ps i
      have l3 := vr.2
      refine ⟨c, _, rfl, sqT (g.sm _ _ hc), rfl, _, _, rfl, _, _, rfl, _, _, rfl, _, _, rfl, rfl, ?_⟩
      refine ⟨_, rfl, _, rfl, by omega, by omega, for_it (walk_r0 (n := ((p.m : Int)).toNat)) (fun k σ H' => ∃ (u5 : Option V), σ = [some (.ref a), some (.ref l), some (.str p.n), some (.int p.f), some (.int p.s), some (.int (p.m : Int)), u5] ∧ Grow IsFr H H' l (film (ps.take i) ++ p.film.take k)) ⟨_, rfl, by rw [List.take_zero, List.append_nil]; exact g⟩ (fun _ _ _ _ _ => trivial) ?_ ?_⟩
      · rintro k x σ H3 H4 hk ⟨_, rfl, g3⟩ ⟨rfl, rfl⟩
        have hk2 : k < p.m := by omega
        obtain ⟨ys, h1, h2⟩ := g3.ls
        refine ⟨_, rfl, .inl ⟨rfl, _, sqL h1⟩, _, rfl, _, rfl, _, rfl, _, rfl, _, _, rfl, rfl, .inl ⟨by omega, by omega⟩, _, _, rfl, rfl, by show 2 ≤ sizeLine; decide, fun t ht => ?_⟩
        have g4 := g3.keep mFr (sm_new (o := .tup [.str p.n, .int (p.f + p.s * (k : Int))]) ht)
        obtain ⟨zs, h3, h4⟩ := g4.ls
        refine ⟨l, zs, _, rfl, rfl, h3, sz_lt ?_, _, rfl, ?_⟩
        · rw [h4.len, List.length_append, List.length_take, film_len, Pc.film_len]
          omega
        rw [take_snoc (p.film_at hk2), ← List.append_assoc]
        exact g4.more mFr h3 h4 (.one ⟨t, rfl, upd_same⟩)
      · rintro σ H3 ⟨_, rfl, g3⟩
        refine ⟨_, _, _, _, _, rfl, ?_⟩
        rw [film_snoc ep]
        have e3 : p.film.take ((p.m : Int)).toNat = p.film := List.take_of_length_le (by rw [Pc.film_len]; omega)
        rw [e3] at g3
        exact g3
    · rintro σ H' ⟨_, _, _, _, _, rfl, g⟩
      obtain ⟨ys, h1, h2⟩ := g.ls
      refine ⟨_, rfl, q _ _ g.sm ⟨l, ys, rfl, h1, ?_⟩⟩
      rw [ha.len, List.take_length] at h2
      exact h2
end
end K62
/-! K62, the walk, twelfth part: the law's least rows, deeds, lists of deeds. -/
namespace K62
open PySem PySem.Spec PyProof.Rows L2
theorem pcD_lay' (a : Ps) (h : PyData.strOk a.n = true) : (pcD a).canLay0 = true := by simp [pcD, PyData.canLay0, PyData.canLayAll0, h]
theorem GPc.ok {p : Ps} (h : GPc Nm ("" : Str) p) : PyData.strOk p.n = true := by
  have v : VF (p.n, p.f + p.s * ((0 : Nat) : Int)) := h.fr _ (List.mem_of_getElem? (p.film_at (k := 0) h.pos))
  exact VFr.ok v
theorem pcs_sh {ps : List Ps} (h : ∀ p ∈ ps, PyData.strOk p.n = true) : SeqAt.shaped (.list (ps.map pcD)) = true := shL (fun a ha => pcD_lay' a (h a ha)) pcD_dep (by decide)
theorem pcs_eqv (a b : List Ps) : PyData.eqv (.list (a.map pcD)) (.list (b.map pcD)) = decide (a = b) := by
  simp only [PyData.eqv]
  exact eqvAll_map pcD_eqv a b
theorem ixN_last {n : Nat} (h : 0 < n) : ixN n (-1) = some (n - 1) := by
  unfold ixN
  rw [if_neg (by decide), if_pos (by omega)]
  congr 1
  omega
theorem set_last {α : Type} (ys : List α) (p q : α) : (ys ++ [p]).set ((ys ++ [p]).length - 1) q = ys ++ [q] := by
  rw [List.length_append, List.length_singleton, Nat.add_sub_cancel, List.set_append_right _ _ (Nat.le_refl _), Nat.sub_self]
  rfl
theorem foldL_len : ∀ (l : List Fs) (acc : List Ps), (l.foldl stepL acc).length ≤ acc.length + l.length
  | [], acc => by simp
  | y :: l, acc => by
    have h6 : (stepL acc y).length ≤ acc.length + 1 := by
      unfold stepL
      split
      · simp
      · split <;> simp
    have h7 := foldL_len l (stepL acc y)
    rw [List.foldl_cons, List.length_cons]
    omega
section
variable {P : Program} {w : World} {K : PySem.W.Frag} {mg : Str → Option Value} {base : Heap}
def spLLeast : Sp := fun vs H Q _ => ∃ (v : V) (fs : List Fs), vs = [v] ∧ IsFilm H v fs ∧ (∀ x ∈ fs, VF x) ∧ fs.length ≤ 3000 ∧ ∀ H' v', Same H H' → IsRow H' v' (least fs) → Q v' H'
theorem ok_lleast (D : DefF K mg "_law_least" s_law_least) (T : Tx mg) : C8.Cal P w K mg base 1 "_law_least" spLLeast [] := by
  refine D.cal sc_law_least (fun _ _ _ _ _ _ us hl => match us, hl with | [_], _ => rfl) (fun vs H Q E h => ?_) (fun f cdv A outer s H vs Q E hr h => ?_)
  · obtain ⟨_, _, rfl, _⟩ := h
    rfl
  · obtain ⟨_, fs, rfl, ⟨a, xs, rfl, hp, ha⟩, vf, hz, q⟩ := h
    have nd := sc_law_least.nd
    have hlen := ha.len
    refine ⟨_, (pss_cons (ps_set (i := 1) nd rfl (Or.inl rfl) (pe_lst pa_nil))
      (pss_cons (ps_for PassesOwn.never rfl (pi_list (pv 0)) (pg_tup rfl (pgs_cons (pg_name (i := 2) nd rfl (Or.inl rfl)) (pgs_cons (pg_name (i := 3) nd rfl (Or.inl rfl)) pgs_nil))) (C8.pss_cut (ps_asg (pe_ifExp (pt_cmpR (op_neD hr.units) (pv 1) (pe_lst pa_nil) (nomark _)) (pe_ix ix_list (pv 1) (pe_un un_neg pe_int) (fun _ _ => rfl)) (pe_tup (pa_cons pe_str (pa_cons pe_int (pa_cons pe_int (pa_cons pe_int pa_nil)))))) (pg_tup rfl (pgs_cons (pg_name (i := 4) nd rfl (Or.inl rfl)) (pgs_cons (pg_name (i := 5) nd rfl (Or.inl rfl)) (pgs_cons (pg_name (i := 6) nd rfl (Or.inl rfl)) (pgs_cons (pg_name (i := 7) nd rfl (Or.inl rfl)) pgs_nil))))))
      (pss_one (ps_if (PW.pt (pw_and (pt_cmpR op_eq (pv 7) pe_int (nomark _)) (pw_and (pt_cmpR op_eq (pv 4) (pv 2) (nomark _)) (pw_and1 (pt_chain op_le op_le (pe_un un_neg pe_int) (pe_op op_sub (pv 3) (pv 5)) pe_int))))) (pss_one (ps_asg (pe_tup (pa_cons (pv 2) (pa_cons (pv 5) (pa_cons (pe_op op_sub (pv 3) (pv 5)) (pa_cons pe_int pa_nil))))) (pg_sub (pv 1) (pe_un un_neg pe_int) set_list))) (pss_one (ps_if (PW.pt (pw_and (pt_cmpR op_gt (pv 7) pe_int (nomark _)) (pw_and (pt_cmpR op_eq (pv 4) (pv 2) (nomark _)) (pw_and1 (pt_cmpR op_eq (pv 3) (pe_op op_add (pv 5) (pe_op op_mul (pv 6) (pv 7))) (nomark _)))))) (pss_one (ps_asg (pe_tup (pa_cons (pv 2) (pa_cons (pv 5) (pa_cons (pv 6) (pa_cons (pe_op op_add (pv 7) pe_int) pa_nil))))) (pg_sub (pv 1) (pe_un un_neg pe_int) set_list))) (pss_one (ps_expr (pe_bm PySem.F.plainAttrs_list PySem.F.slot_list_append PySem.F.type_list_append mt_append (pv 1) (pa_cons (pe_tup (pa_cons (pv 2) (pa_cons (pv 3) (pa_cons pe_int (pa_cons pe_int pa_nil))))) pa_nil))))))))))
      (pss_one (ps_ret (pe_callTy call_tuple_of (by rfl) T.b_tuple bt_tuple (pa_cons (pv 1) pa_nil)))))), ?_⟩
    refine ⟨Nat.zero_le _, fun l hl => ?_⟩
    refine ⟨_, rfl, a, rfl, ⟨xs, sqL (sm_new hl _ _ hp)⟩, for_it (walk_list (xs := xs)) (fun i σ H' => ∃ (u1 u2 u3 u4 u5 u6 : Option V), σ = [some (.ref a), some (.ref l), u1, u2, u3, u4, u5, u6] ∧ Grow IsPc H H' l ((fs.take i).foldl stepL []).reverse) ⟨none, none, none, none, none, none, rfl, Grow.start (Same.refl H) hl⟩ ?_ ?_ ?_⟩
    · rintro i σ H' _ ⟨_, _, _, _, _, _, rfl, g⟩
      exact sqL (g.sm _ _ hp)
    · rintro i y σ H1 H2 hi ⟨_, _, _, _, _, _, rfl, g⟩ ⟨rfl, hy⟩
      obtain ⟨x, ex, ⟨c, rfl, hc⟩⟩ := ha.get hy
      have vx := vf x (List.mem_of_getElem? ex)
      have lacc := foldL_len (fs.take i) []
      have gacc := foldL_good (N := Nm) (blk := ("" : Str)) (fs.take i) [] (fun z hz => vf z (List.mem_of_mem_take hz)) (fun _ h => nomatch h)
      rw [List.length_take] at lacc
      simp only [List.length_nil] at lacc
      have enext : (fs.take (i + 1)).foldl stepL [] = stepL ((fs.take i).foldl stepL []) x := by
        rw [take_snoc ex, List.foldl_append]
        rfl
      rw [enext]
      generalize (fs.take i).foldl stepL [] = acc at g lacc gacc
      refine ⟨c, _, rfl, sqT (g.sm _ _ hc), rfl, _, _, rfl, _, _, rfl, rfl, ?_⟩
      -- last, first, step, many
      refine ⟨fun σ' H' => ∃ p : Ps, σ' = [some (.ref a), some (.ref l), some (.str x.1), some (.int x.2), some (.str p.n), some (.int p.f), some (.int p.s), some (.int (p.m : Int))] ∧ Grow IsPc H H' l acc.reverse ∧ -1 ≤ p.s ∧ p.s ≤ 1 ∧ ((acc = [] ∧ p.m = 0) ∨ ∃ r, acc = p :: r), ?_, ?_⟩
      · obtain ⟨ws, h1, h2⟩ := g.ls
        refine ⟨_, rfl, Nat.zero_le _, fun t ht => ?_⟩
        have s1 := sm_new (o := .lst []) ht
        have g1 := g.keep mPc s1
        obtain ⟨ws1, h3, h4⟩ := g1.ls
        refine ⟨.list (acc.reverse.map pcD), .list (([] : List Ps).map pcD), .lst (sqL h3) (dpAll (fun _ _ z => z.dp) h4), .lst (sqL upd_same) .nil, pcs_sh (fun p hp => (gacc p (by simpa using hp)).ok), pcs_sh (fun _ h => nomatch h), _, rfl, ?_⟩
        rw [pcs_eqv]
        cases acc with
        | nil =>
          refine iteC (ndf rfl) ⟨by show 4 ≤ sizeLine; decide, fun t2 ht2 => ?_⟩
          refine ⟨t2, _, rfl, sqT upd_same, rfl, _, _, rfl, _, _, rfl, _, _, rfl, _, _, rfl, rfl, ?_⟩
          exact ⟨⟨"", 0, 0, 0⟩, rfl, g1.keep mPc (sm_new ht2), (by show (-1 : Int) ≤ 0; decide), (by show (0 : Int) ≤ 1; decide), .inl ⟨rfl, rfl⟩⟩
        | cons p r =>
          refine iteB (ndt (by simp)) ?_
          rw [List.reverse_cons] at h4
          obtain ⟨ys, y, rfl, h5, ⟨c2, rfl, hc2⟩⟩ := all2_last h4
          have gp := gacc p List.mem_cons_self
          refine ⟨_, rfl, _, rfl, l, _, _, _, rfl, rfl, sqL h3, atI_last ys (.ref c2), c2, _, rfl, sqT hc2, rfl, _, _, rfl, _, _, rfl, _, _, rfl, _, _, rfl, rfl, ?_⟩
          exact ⟨p, rfl, g1, gp.s0, gp.s1, .inr ⟨r, rfl⟩⟩
      · rintro σ' H3 ⟨p, rfl, g3, p0, p1, hacc⟩
        obtain ⟨ws, h1, h2⟩ := g3.ls
        have lws := h2.len
        rw [List.length_reverse] at lws
        refine if_t0 (t0_and (a := decide (V.int (p.m : Int) = V.int 1)) (b := decide (V.str p.n = V.str x.1) && (decide (-1 ≤ x.2 - p.f) && decide (x.2 - p.f ≤ 1))) (fun Q qq => ⟨_, rfl, rfl, _, rfl, qq⟩) fun _ => t0_and (fun Q qq => ⟨_, rfl, _, rfl, rfl, _, rfl, qq⟩) fun _ => fun Q qq => ?_) (fun hb => ?_) fun hb => ?_
        · refine ⟨_, rfl, _, rfl, _, rfl, _, _, rfl, rfl, _, _, rfl, rfl, _, rfl, ?_⟩
          by_cases h : -1 ≤ x.2 - p.f
          · refine iteB (decide_eq_true h) ⟨_, _, rfl, rfl, _, rfl, ?_⟩
            rw [decide_eq_true h] at qq
            exact qq
          · refine iteC (decide_eq_false h) ⟨_, rfl, ?_⟩
            rw [decide_eq_false h] at qq
            exact qq
        · simp only [Bool.and_eq_true, decide_eq_true_eq, V.int.injEq, V.str.injEq] at hb
          obtain ⟨b1, b2, b3, b4⟩ := hb
          have b1 : p.m = 1 := by omega
          obtain ⟨r, rfl⟩ : ∃ r, acc = p :: r := by
            rcases hacc with ⟨_, h0⟩ | h
            · omega
            · exact h
          have hext : ext p x = some ⟨p.n, p.f, x.2 - p.f, 2⟩ := by
            unfold ext
            rw [if_pos ⟨b1, b2, b3, b4⟩]
          refine ⟨_, rfl, _, rfl, _, rfl, _, rfl, _, _, rfl, rfl, by show 4 ≤ sizeLine; decide, fun t ht => ?_⟩
          have s4 := sm_new (o := .tup [.str x.1, .int p.f, .int (x.2 - p.f), .int 2]) ht
          have g4 := g3.keep mPc s4
          obtain ⟨zs, h3, h4⟩ := g4.ls
          have lz := h4.len
          rw [List.length_reverse, List.length_cons] at lz
          refine ⟨_, rfl, _, rfl, l, zs, _, _, rfl, rfl, h3, ixN_last (by omega), ?_⟩
          refine ⟨_, _, _, _, _, _, rfl, ?_⟩
          have g5 := g4.setAt (v := .ref t) (a := (⟨p.n, p.f, x.2 - p.f, 2⟩ : Ps)) mPc (zs.length - 1) h3 h4 ⟨t, rfl, by rw [upd_same, b2]; rfl⟩
          rw [stepL_more hext, List.reverse_cons]
          rw [List.reverse_cons] at g5
          have e6 : zs.length - 1 = (r.reverse ++ [p]).length - 1 := by
            have := h4.len
            rw [List.reverse_cons] at this
            rw [this]
          rw [e6, set_last] at g5
          rw [← e6] at g5
          exact g5
        · have hA : ¬ (p.m = 1 ∧ p.n = x.1 ∧ -1 ≤ x.2 - p.f ∧ x.2 - p.f ≤ 1) := fun z => by
            obtain ⟨z1, z2, z3, z4⟩ := z
            rw [decide_eq_true (congrArg V.int (by omega)), decide_eq_true (congrArg V.str z2), decide_eq_true z3, decide_eq_true z4] at hb
            cases hb
          refine if_t0 (t0_and (a := decide ((1 : Int) < (p.m : Int))) (b := decide (V.str p.n = V.str x.1) && decide (V.int x.2 = V.int (p.f + p.s * (p.m : Int)))) (fun Q qq => ⟨_, rfl, _, _, rfl, rfl, _, rfl, qq⟩) fun _ => t0_and (fun Q qq => ⟨_, rfl, _, rfl, rfl, _, rfl, qq⟩) fun _ => fun Q qq => ?_) (fun hb2 => ?_) fun hb2 => ?_
          · exact ⟨_, rfl, _, rfl, _, rfl, _, rfl, _, _, rfl, rfl, .inl ⟨by omega, by omega⟩, _, _, rfl, rfl, rfl, _, rfl, qq⟩
          · simp only [Bool.and_eq_true, decide_eq_true_eq, V.int.injEq, V.str.injEq] at hb2
            obtain ⟨b1, b2, b3⟩ := hb2
            obtain ⟨r, rfl⟩ : ∃ r, acc = p :: r := by
              rcases hacc with ⟨_, h0⟩ | h
              · omega
              · exact h
            have hext : ext p x = some ⟨p.n, p.f, p.s, p.m + 1⟩ := by
              unfold ext
              rw [if_neg hA, if_pos ⟨by omega, b2, b3⟩]
            refine ⟨_, rfl, _, rfl, _, rfl, _, rfl, _, _, rfl, rfl, by show 4 ≤ sizeLine; decide, fun t ht => ?_⟩
            have s4 := sm_new (o := .tup [.str x.1, .int p.f, .int p.s, .int ((p.m : Int) + 1)]) ht
            have g4 := g3.keep mPc s4
            obtain ⟨zs, h3, h4⟩ := g4.ls
            have lz := h4.len
            rw [List.length_reverse, List.length_cons] at lz
            refine ⟨_, rfl, _, rfl, l, zs, _, _, rfl, rfl, h3, ixN_last (by omega), ?_⟩
            refine ⟨_, _, _, _, _, _, rfl, ?_⟩
            have g5 := g4.setAt (v := .ref t) (a := (⟨p.n, p.f, p.s, p.m + 1⟩ : Ps)) mPc (zs.length - 1) h3 h4 ⟨t, rfl, by rw [upd_same, b2]; rfl⟩
            rw [stepL_more hext, List.reverse_cons]
            rw [List.reverse_cons] at g5
            have e6 : zs.length - 1 = (r.reverse ++ [p]).length - 1 := by
              have := h4.len
              rw [List.reverse_cons] at this
              rw [this]
            rw [e6, set_last] at g5
            rw [← e6] at g5
            exact g5
          · have hB : ¬ (1 < p.m ∧ p.n = x.1 ∧ x.2 = p.f + p.s * (p.m : Int)) := fun z => by
              obtain ⟨z1, z2, z3⟩ := z
              rw [decide_eq_true (by omega), decide_eq_true (congrArg V.str z2), decide_eq_true (congrArg V.int z3)] at hb2
              cases hb2
            refine ⟨_, rfl, .inl ⟨rfl, _, sqL h1⟩, _, rfl, _, rfl, by show 4 ≤ sizeLine; decide, fun t ht => ?_⟩
            have s4 := sm_new (o := .tup [.str x.1, .int x.2, .int 0, .int 1]) ht
            have g4 := g3.keep mPc s4
            obtain ⟨zs, h3, h4⟩ := g4.ls
            have lz := h4.len
            rw [List.length_reverse] at lz
            refine ⟨l, zs, _, rfl, rfl, h3, sz_lt (by omega), ?_⟩
            refine ⟨_, _, _, _, _, _, rfl, ?_⟩
            have en : stepL acc x = one x :: acc := by
              refine stepL_new ?_
              rcases hacc with ⟨h0, _⟩ | ⟨r, rfl⟩
              · rw [h0]
                rfl
              · show ext p x = none
                unfold ext
                rw [if_neg hA, if_neg hB]
            rw [en, List.reverse_cons]
            exact g4.more mPc h3 h4 (.one ⟨t, rfl, upd_same⟩)
    · rintro σ H' ⟨_, _, _, _, _, _, rfl, g⟩
      obtain ⟨ys, h1, h2⟩ := g.ls
      refine ⟨_, rfl, l, ys, rfl, .inl ⟨sqL h1, fun r hr => ?_⟩⟩
      rw [ha.len, List.take_length] at h2
      exact q _ _ (g.sm.trans (sm_new hr)) ⟨r, ys, rfl, upd_same, h2.mono fun _ _ z => z.ts (ts_of (sm_new hr))⟩
end
end K62
/-! K62, the walk, thirteenth part: the law's deeds and lists of deeds. -/
namespace K62
open PySem PySem.Spec PyProof.Rows L2
theorem min3 (x y z : Int) : ∃ m, nuMin3 (.int x) (.int y) (.int z) = some (.int m) ∧ m ≤ x ∧ m ≤ y ∧ m ≤ z ∧ (m = x ∨ m = y ∨ m = z) := by
  have h2 : ∀ a b : Int, nuMin2 (.int a) (.int b) = some (.int (if b < a then b else a)) := fun a b => by
    show (some (decide (b < a))).map (fun c => if c = true then V.int b else V.int a) = _
    by_cases h : b < a
    · rw [decide_eq_true h, if_pos h]
      rfl
    · rw [decide_eq_false h, if_neg h]
      rfl
  unfold nuMin3
  rw [h2, Option.bind_some, h2]
  refine ⟨_, rfl, ?_⟩
  split <;> split <;> omega
theorem cutV_to (xs : List V) (i : Nat) : cutV xs none (some (i : Int)) = xs.take i := by
  unfold cutV
  rw [HT.sIx_none, HT.sIx_nat, List.drop_zero, Nat.sub_zero]
  by_cases h : i ≤ xs.length
  · rw [show min i xs.length = i by omega]
  · rw [show min i xs.length = xs.length by omega, List.take_length, List.take_of_length_le (by omega)]
theorem cutV_from (xs : List V) (i : Nat) : cutV xs (some (i : Int)) none = xs.drop i := by
  unfold cutV
  rw [HT.sIx_none, HT.sIx_nat]
  by_cases h : i ≤ xs.length
  · rw [show min i xs.length = i by omega, List.take_of_length_le (by rw [List.length_drop]; omega)]
  · rw [show min i xs.length = xs.length by omega, List.drop_length, List.drop_eq_nil_of_le (by omega)]
    simp
section
variable {K : PySem.W.Frag} {H : Hp} {x y : V} {Q : VK} {α : Type} {R : Hp → V → α → Prop}
/-- a list of such things -/
def IsL (R : Hp → V → α → Prop) (H : Hp) (v : V) (as : List α) : Prop := ∃ a xs, v = .ref a ∧ H a = some (.lst xs) ∧ All2 (R H) xs as
/-- a list that H0 did not know -/
def IsN (R : Hp → V → α → Prop) (H0 H : Hp) (v : V) (as : List α) : Prop := ∃ a xs, v = .ref a ∧ H0 a = none ∧ H a = some (.lst xs) ∧ All2 (R H) xs as
theorem IsN.l {H0 : Hp} {v : V} {as : List α} (h : IsN R H0 H v as) : IsL R H v as := let ⟨a, xs, h1, _, h3, h4⟩ := h; ⟨a, xs, h1, h3, h4⟩
theorem IsN.back {H0 H1 : Hp} {v : V} {as : List α} (s : Same H0 H1) (h : IsN R H1 H v as) : IsN R H0 H v as := let ⟨a, xs, h1, h2, h3, h4⟩ := h; ⟨a, xs, h1, Same.free s h2, h3, h4⟩
theorem IsL.sm (mono : ∀ H H' v a, TS H H' → R H v a → R H' v a) {H' : Hp} {v : V} {as : List α} (h : IsL R H v as) (s : Same H H') : IsL R H' v as := let ⟨a, xs, h1, h2, h3⟩ := h; ⟨a, xs, h1, s _ _ h2, h3.mono fun _ _ z => mono _ _ _ _ (ts_of s) z⟩
theorem catL (mono : ∀ H H' v a, TS H H' → R H v a → R H' v a) {as bs : List α} (hx : IsL R H x as) (hy : IsL R H y bs) (hz : as.length + bs.length ≤ 90000) (q : ∀ v H', Same H H' → IsN R H H' v (as ++ bs) → Q v H') : rCat x y H Q := by
  obtain ⟨a, xs, rfl, h1, h2⟩ := hx
  obtain ⟨b, ys, rfl, h3, h4⟩ := hy
  refine ⟨a, b, xs, ys, rfl, rfl, h1, h3, sz_le (by rw [h2.len, h4.len]; omega), fun p hp => ?_⟩
  have s := sm_new (o := .lst (xs ++ ys)) hp
  exact q _ _ s ⟨p, xs ++ ys, rfl, hp, upd_same, (h2.app h4).mono fun _ _ z => mono _ _ _ _ (ts_of s) z⟩
theorem sliceTo (mono : ∀ H H' v a, TS H H' → R H v a → R H' v a) {as : List α} {i : Nat} (hx : IsL R H x as) (q : ∀ v H', Same H H' → IsL R H' v (as.take i) → Q v H') : rSlL K x none (some (i : Int)) H Q := by
  obtain ⟨a, xs, rfl, h1, h2⟩ := hx
  refine ⟨a, xs, rfl, sqL h1, fun p hp => ?_⟩
  rw [cutV_to]
  have s := sm_new (o := .lst (xs.take i)) hp
  exact q _ _ s ⟨p, _, rfl, upd_same, (h2.take i).mono fun _ _ z => mono _ _ _ _ (ts_of s) z⟩
theorem sliceFrom (mono : ∀ H H' v a, TS H H' → R H v a → R H' v a) {as : List α} {i : Nat} (hx : IsL R H x as) (q : ∀ v H', Same H H' → IsL R H' v (as.drop i) → Q v H') : rSlL K x (some (i : Int)) none H Q := by
  obtain ⟨a, xs, rfl, h1, h2⟩ := hx
  refine ⟨a, xs, rfl, sqL h1, fun p hp => ?_⟩
  rw [cutV_from]
  have s := sm_new (o := .lst (xs.drop i)) hp
  exact q _ _ s ⟨p, _, rfl, upd_same, (h2.drop i).mono fun _ _ z => mono _ _ _ _ (ts_of s) z⟩
theorem sliceFromN {σ : L2.St} {j : Int} {i : Nat} (e : j = (i : Int)) (mono : ∀ H H' v a, TS H H' → R H v a → R H' v a) {as : List α} (hx : IsL R H x as) (q : ∀ v H', Same H H' → IsL R H' v (as.drop i) → Q v H') : tNoPart σ H (fun u H3 => rSlL K x (some j) u H3 Q) := by
  subst e
  exact sliceFrom mono hx q
theorem sliceMid (mono : ∀ H H' v a, TS H H' → R H v a → R H' v a) {as : List α} {i n : Nat} (hx : IsL R H x as) (hl : i + n ≤ as.length) (q : ∀ v H', Same H H' → IsL R H' v ((as.drop i).take n) → Q v H') : rSlL K x (some (i : Int)) (some ((i : Int) + (n : Int))) H Q := by
  obtain ⟨a, xs, rfl, h1, h2⟩ := hx
  refine ⟨a, xs, rfl, sqL h1, fun p hp => ?_⟩
  rw [cutV_nat xs i n (by rw [h2.len]; exact hl)]
  have s := sm_new (o := .lst ((xs.drop i).take n)) hp
  exact q _ _ s ⟨p, _, rfl, upd_same, ((h2.drop i).take n).mono fun _ _ z => mono _ _ _ _ (ts_of s) z⟩
end
theorem film_is {H : Hp} {v : V} {fs : List Fs} : IsFilm H v fs ↔ IsL IsFr H v fs := Iff.rfl
theorem tags_is {H : Hp} {v : V} {ts : List Tag} : IsTags H v ts ↔ IsL IsTag H v ts := Iff.rfl
section
variable {P : Program} {w : World} {K : PySem.W.Frag} {mg : Str → Option Value} {base : Heap}
theorem len9 {ps : List Ps} (h : ∀ p ∈ ps, p.m ≤ 9) : len ps ≤ 9 * ps.length := by
  induction ps with
  | nil => exact Nat.zero_le _
  | cons p r ih =>
    have e : len (p :: r) = p.m + len r := by simp [len]
    have h1 := h p List.mem_cons_self
    have h2 := ih fun q hq => h q (List.mem_cons_of_mem _ hq)
    rw [e, List.length_cons]
    omega
def spLDeed (K : PySem.W.Frag) : Sp := fun vs H Q _ => ∃ (v fr u : V) (k n : Int) (fs : List Fs) (zs : List Str), vs = [v, .int k, fr, u, .int n] ∧ Scr K H v ∧ IsFilm H fr fs ∧ (∀ x ∈ fs, VF x) ∧ fs.length ≤ 1000 ∧ IsStrs H u zs ∧ zs.length = 3 ∧ (∀ z ∈ zs, Nm z) ∧
  ∀ H' v' (d : Ds) F, Same H H' → IsDd H' v' d → VDx d → Fit fs d.G F → Q v' H'
theorem ok_ldeed (D : DefF K mg "_law_deed" s_law_deed) (T : Tx mg) (c__law_drawn : C8.Cal P w K mg base 2 "_law_drawn" (spDrawn K) []) (c__law_row : C8.Cal P w K mg base 4 "_law_row" (spLRow K) []) (c__law_film : C8.Cal P w K mg base 1 "_law_film" spLFilm [])
    (c__law_least : C8.Cal P w K mg base 1 "_law_least" spLLeast []) : C8.Cal P w K mg base 5 "_law_deed" (spLDeed K) [] := by
  refine D.cal sc_law_deed (fun _ _ _ _ _ _ us hl => match us, hl with | [_, _, _, _, _], _ => rfl) (fun vs H Q E h => ?_) (fun f cdv A outer s H vs Q E hr h => ?_)
  · obtain ⟨_, _, _, _, _, _, _, rfl, _⟩ := h
    rfl
  · obtain ⟨v, fr, u, k0, n0, fs, zs, rfl, hS, hF, vf, zf, hN, lz, hz, q⟩ := h
    have nd := sc_law_deed.nd
    refine ⟨_, (pss_cons (ps_set (i := 5) nd rfl (Or.inl rfl) (pe_op op_cat (C8.pe_c c__law_film hr (by decide) (by rfl) (pa_cons (C8.pe_c c__law_row hr (by decide) (by rfl) (pa_cons (pv 0) (pa_cons (pe_op op_add (pv 1) pe_int) (pa_cons pe_int (pa_cons (pv 3) pa_nil))))) pa_nil)) (pe_lst (pa_cons (pe_tup (pa_cons (pe_ix ix_list (pv 3) pe_int (fun _ _ => rfl)) (pa_cons (C8.pe_c c__law_drawn hr (by decide) (by rfl) (pa_cons (pv 0) (pa_cons (pe_op op_add (pv 1) pe_int) (pa_cons pe_int pa_nil)))) pa_nil))) pa_nil))))
      (pss_cons (ps_set (i := 6) nd rfl (Or.inl rfl) (C8.pe_c c__law_drawn hr (by decide) (by rfl) (pa_cons (pv 0) (pa_cons (pv 1) (pa_cons (pe_op op_add (pe_callB call_len_seq (by rfl) T.b_len bt_len (pa_cons (pv 2) pa_nil)) pe_int) pa_nil)))))
      (C8.pss_cut (ps_if (pt_cmpR op_eq (C8.pe_c c__law_drawn hr (by decide) (by rfl) (pa_cons (pv 0) (pa_cons (pe_op op_add (pv 1) pe_int) (pa_cons pe_int pa_nil)))) pe_int (nomark _)) (pss_one (ps_set (i := 6) nd rfl (Or.inl rfl) (pe_callB (call_max2 rfl) (by rfl) T.b_max bt_max (pa_cons pe_int (pa_cons (pe_callB (call_min2 rfl) (by rfl) T.b_min bt_min (pa_cons (pe_callB call_len_seq (by rfl) T.b_len bt_len (pa_cons (pv 2) pa_nil)) (pa_cons (pe_op op_sub (pe_op op_add (pv 4) (C8.pe_c c__law_drawn hr (by decide) (by rfl) (pa_cons (pv 0) (pa_cons (pe_op op_add (pv 1) pe_int) (pa_cons pe_int pa_nil))))) pe_int) pa_nil))) pa_nil))))) pss_nil)
      (pss_cons (ps_set (i := 7) nd rfl (Or.inl rfl) (pe_callB (call_min3Nu rfl) (by rfl) T.b_min bt_min (pa_cons (C8.pe_c c__law_drawn hr (by decide) (by rfl) (pa_cons (pv 0) (pa_cons (pe_op op_add (pv 1) pe_int) (pa_cons pe_int pa_nil)))) (pa_cons (pe_op op_sub (pe_callB call_len_seq (by rfl) T.b_len bt_len (pa_cons (pv 2) pa_nil)) (pv 6)) (pa_cons (pe_callB call_len_seq (by rfl) T.b_len bt_len (pa_cons (pv 5) pa_nil)) pa_nil)))))
      (pss_cons (ps_set (i := 8) nd rfl (Or.inl rfl) (C8.pe_c c__law_drawn hr (by decide) (by rfl) (pa_cons (pv 0) (pa_cons (pe_op op_add (pv 1) pe_int) (pa_cons pe_int pa_nil)))))
      (pss_cons (ps_if (PW.pt (pw_or (pt_cmpR op_eq (pv 7) pe_int (nomark _)) (pw_or1 (pt_cmpR op_eq (pv 8) pe_int (nomark _))))) (pss_one (ps_ret (pe_tup (pa_cons pe_str (pa_cons (pv 6) (pa_cons (C8.pe_c c__law_least hr (by decide) (by rfl) (pa_cons (pv 5) pa_nil)) pa_nil)))))) pss_nil)
      (pss_cons (ps_set (i := 9) nd rfl (Or.inl rfl) (C8.pe_c c__law_least hr (by decide) (by rfl) (pa_cons (pe_slice sl_list (pv 2) (po_some (pv 6)) (po_some (pe_op op_add (pv 6) (pv 7)))) pa_nil)))
      (pss_cons (ps_if (pt_cmpR op_eq (pv 8) pe_int (nomark _)) (pss_one (ps_ret (pe_tup (pa_cons pe_str (pa_cons (pv 6) (pa_cons (pv 9) pa_nil)))))) pss_nil)
      (pss_one (ps_ret (pe_tup (pa_cons pe_str (pa_cons (pv 6) (pa_cons (pv 9) (pa_cons (C8.pe_c c__law_least hr (by decide) (by rfl) (pa_cons (pe_slice sl_list (pv 5) po_none (po_some (pv 7))) pa_nil)) pa_nil))))))))))))))), ?_⟩
    -- more
    refine ⟨_, rfl, _, rfl, _, _, rfl, rfl, _, rfl, v, u, _, 2, zs, rfl, hS, by decide, by decide, hN, lz, hz, fun H1 v1 ps s1 r1 vp mp lp => ?_⟩
    have l9 := len9 mp
    have vr : VRw ps := ⟨vp, by omega⟩
    refine ⟨v1, ps, rfl, r1, vr, fun H2 v2 s2 f2 => ?_⟩
    have t2 := s1.trans s2
    obtain ⟨a, rfl, hna⟩ := hN
    obtain ⟨y, hy, ey⟩ := pickL (xs := zs.map V.str) (i := 0) (by decide) (by rw [List.length_map, lz]; decide)
    obtain ⟨z, hzm, rfl⟩ := List.mem_map.mp hy
    refine ⟨_, rfl, a, _, _, _, rfl, rfl, sqL (t2 _ _ hna), ey, ?_⟩
    refine ⟨_, rfl, _, rfl, _, _, rfl, rfl, v, _, 9, rfl, hS.sm t2, by decide, fun H3 i3 s3 h30 h31 => ⟨by show 2 ≤ sizeLine; decide, fun t ht => ?_⟩⟩
    have s4 := sm_new (o := .tup [.str z, .int i3]) ht
    refine ⟨by show 1 ≤ sizeLine; decide, fun tl htl => ?_⟩
    have s5 := sm_new (o := .lst [.ref t]) htl
    have t5 := ((t2.trans s3).trans s4).trans s5
    have fl : film ps ++ [(z, i3)] ≠ [] := by simp
    have ll : (film ps ++ [(z, i3)]).length ≤ 19 := by
      rw [List.length_append, film_len]
      show len ps + 1 ≤ 19
      omega
    have vm : ∀ x ∈ film ps ++ [(z, i3)], VF x := fun x hx => by
      rcases List.mem_append.mp hx with hx | hx
      · exact VPcs.frames vp x hx
      · rw [List.mem_singleton.mp hx]
        exact .inr ⟨hz z hzm, h30, by show i3 ≤ 9999; omega⟩
    refine catL mFr (as := film ps) (bs := [(z, i3)]) (f2.sm ((s3.trans s4).trans s5)) ⟨tl, _, rfl, upd_same, .one ⟨t, rfl, s5 _ _ upd_same⟩⟩ (by rw [List.length_append] at ll; omega) fun v6 H6 s6 f6 => ?_
    have t6 := t5.trans s6
    have f6 := f6.l
    generalize film ps ++ [(z, i3)] = more at fl ll vm f6
    have lm : 1 ≤ more.length := List.length_pos_iff.mpr fl
    -- place
    have hF6 := hF.sm t6
    obtain ⟨b, xs, rfl, hb, gb⟩ := hF6
    have lxs := gb.len
    refine ⟨_, rfl, _, rfl, _, rfl, b, xs, rfl, .inl (sqL hb), _, _, rfl, rfl, v, _, _, rfl, hS.sm t6, by omega, fun H7 i7 s7 h70 h71 => ?_⟩
    have t7 := t6.trans s7
    refine ⟨fun σ' H' => ∃ pl : Nat, σ' = [some v, some (.int k0), some (.ref b), some (.ref a), some (.int n0), some v6, some (.int (pl : Int)), none, none, none] ∧ Same H7 H' ∧ pl ≤ fs.length, ?_, ?_⟩
    · refine ⟨_, rfl, _, rfl, _, _, rfl, rfl, v, _, 2, rfl, hS.sm t7, by decide, fun H8 i8 s8 h80 h81 => ⟨rfl, _, rfl, ?_⟩⟩
      have t8 := t7.trans s8
      by_cases h8 : i8 = 0
      · refine iteB (decide_eq_true (congrArg V.int h8)) ?_
        refine ⟨_, rfl, b, xs, rfl, .inl (sqL ((s7.trans s8) _ _ hb)), ?_⟩
        refine ⟨_, rfl, _, rfl, _, rfl, _, _, rfl, rfl, v, _, 5, rfl, hS.sm t8, by decide, fun H9 i9 s9 h90 h91 => ⟨_, _, rfl, rfl, _, _, rfl, rfl, _, _, rfl, _, _, rfl, ?_⟩⟩
        have key : ∀ z : Int, (∃ pl : Nat, z = (pl : Int) ∧ pl ≤ fs.length) → ∃ pl : Nat, ([some v, some (.int k0), some (.ref b), some (.ref a), some (.int n0), some v6, some (.int z), none, none, none] : L2.St) = [some v, some (.int k0), some (.ref b), some (.ref a), some (.int n0), some v6, some (.int (pl : Int)), none, none, none] ∧ Same H7 H9 ∧ pl ≤ fs.length := fun z ⟨pl, e, h⟩ => ⟨pl, by rw [e], s8.trans s9, h⟩
        refine key _ ?_
        rw [lxs]
        refine ⟨(if (if n0 + i9 - 2 < (fs.length : Int) then n0 + i9 - 2 else (fs.length : Int)) > 0 then (if n0 + i9 - 2 < (fs.length : Int) then n0 + i9 - 2 else (fs.length : Int)) else 0).toNat, ?_, ?_⟩
        · split <;> omega
        · split <;> split <;> omega
      · refine iteC (decide_eq_false fun z => h8 (by injection z)) ⟨i7.toNat, ?_, s8, by omega⟩
        have e7 : ((i7.toNat : Nat) : Int) = i7 := by omega
        rw [e7]
        rfl
    rintro σ' H8 ⟨pl, rfl, s8, hpl⟩
    have t8 := t7.trans s8
    have u8 := s7.trans s8
    -- many
    refine ⟨_, rfl, _, rfl, _, _, rfl, rfl, v, _, 6, rfl, hS.sm t8, by decide, fun H9 i9 s9 h90 h91 => ?_⟩
    have t9 := t8.trans s9
    have u9 := u8.trans s9
    have f9 := f6.sm mFr u9
    obtain ⟨c, ms, rfl, hc, gc⟩ := f9
    have lms := gc.len
    refine ⟨_, rfl, b, xs, rfl, .inl (sqL (u9 _ _ hb)), _, rfl, _, _, rfl, rfl, _, rfl, c, ms, rfl, .inl (sqL hc), ?_⟩
    obtain ⟨m, em, m1, m2, m3, m4⟩ := min3 i9 ((xs.length : Int) - (pl : Int)) (ms.length : Int)
    refine ⟨_, _, _, _, rfl, em, ?_⟩
    obtain ⟨n, hn⟩ : ∃ n : Nat, (n : Int) = m := ⟨m.toNat, by omega⟩
    have n1 : n ≤ 5 := by omega
    have n2 : pl + n ≤ fs.length := by omega
    have n3 : n ≤ more.length := by omega
    subst hn
    -- way
    refine ⟨_, rfl, _, rfl, _, _, rfl, rfl, v, _, 3, rfl, hS.sm t9, by decide, fun H10 i10 s10 h100 h101 => ?_⟩
    have t10 := t9.trans s10
    have u10 := u9.trans s10
    have f10 := f6.sm mFr u10
    have hF10 : IsFilm H10 (.ref b) fs := hF.sm t10
    have put_ : spLLeast [.ref c] H10 (fun v11 H11 => ∀ t, H11 t = none → Q (.ref t) (upd H11 t (.tup [.str "put", .int (pl : Int), v11]))) E0 := by
      refine ⟨.ref c, more, rfl, ?_, vm, by omega, fun H11 v11 s11 r11 t ht => ?_⟩
      · obtain ⟨c', ms', e, hc', gc'⟩ := f10
        exact ⟨c', ms', e, hc', gc'⟩
      · have s12 := sm_new (o := .tup [.str "put", .int (pl : Int), v11]) ht
        have vp := VPart.of_film nm_blk vm (by omega) fl
        have lp : len (least more) = more.length := len_least more
        refine q _ _ ⟨.put, pl, least more, []⟩ _ ((t10.trans s11).trans s12) ⟨t, v11, [], rfl, upd_same, r11.sm s12, .inl ⟨(by intro z; cases z), rfl⟩⟩ ⟨vp, by rw [lp]; omega, fun z => nomatch z⟩ (Fit.mk (by show pl + 0 ≤ fs.length; omega) (by show ((fs.drop pl).take 0) = []; rfl))
    -- if many == 0 or way == 0
    refine ⟨_, rfl, rfl, _, rfl, ?_⟩
    by_cases hn0 : n = 0
    · refine iteB (decide_eq_true (congrArg V.int (by omega))) (iteT ?_)
      obtain ⟨v', fs', e', h1, h2, h3, h4⟩ := put_
      cases e'
      exact ⟨_, rfl, _, rfl, _, _, rfl, h1, h2, h3, fun H11 v11 s11 r11 => ⟨by show 3 ≤ sizeLine; decide, fun t ht => h4 H11 v11 s11 r11 t ht⟩⟩
    refine iteC (decide_eq_false fun z => hn0 (by injection z with z; omega)) ⟨_, rfl, rfl, _, rfl, ?_⟩
    by_cases hw0 : i10 = 0
    · refine iteB (decide_eq_true (congrArg V.int hw0)) ?_
      obtain ⟨v', fs', e', h1, h2, h3, h4⟩ := put_
      cases e'
      exact ⟨_, rfl, _, rfl, _, _, rfl, h1, h2, h3, fun H11 v11 s11 r11 => ⟨by show 3 ≤ sizeLine; decide, fun t ht => h4 H11 v11 s11 r11 t ht⟩⟩
    refine iteC (decide_eq_false fun z => hw0 (by injection z)) ?_
    -- some
    refine ⟨_, rfl, _, rfl, _, rfl, _, rfl, _, rfl, _, _, rfl, rfl, _, rfl, ?_⟩
    refine sliceMid mFr (as := fs) (i := pl) (n := n) hF10 n2 fun v11 H11 s11 f11 => ?_
    have t11 := t10.trans s11
    have lsl : ((fs.drop pl).take n).length = n := by rw [List.length_take, List.length_drop]; omega
    have vsl : ∀ x ∈ (fs.drop pl).take n, VF x := fun x hx => vf x (List.mem_of_mem_drop (List.mem_of_mem_take hx))
    have nsl : (fs.drop pl).take n ≠ [] := fun e => by
      rw [e] at lsl
      exact hn0 lsl.symm
    refine ⟨v11, _, rfl, f11, vsl, by omega, fun H12 v12 s12 r12 => ?_⟩
    have t12 := t11.trans s12
    have vp := VPart.of_film nm_blk vsl (by omega) nsl
    have lp : len (least ((fs.drop pl).take n)) = n := (len_least _).trans lsl
    have fo : film (least ((fs.drop pl).take n)) = (fs.drop pl).take n := least_film _
    -- if way == 1
    refine ⟨_, rfl, rfl, _, rfl, ?_⟩
    by_cases hw1 : i10 = 1
    · refine iteB (decide_eq_true (congrArg V.int hw1)) ⟨_, rfl, _, rfl, by show 3 ≤ sizeLine; decide, fun t ht => ?_⟩
      have s13 := sm_new (o := .tup [.str "out", .int (pl : Int), v12]) ht
      refine q _ _ ⟨.out, pl, least ((fs.drop pl).take n), []⟩ _ (t12.trans s13) ⟨t, v12, [], rfl, upd_same, r12.sm s13, .inl ⟨(by intro z; cases z), rfl⟩⟩ ⟨vp, by show len (least ((fs.drop pl).take n)) ≤ 100; omega, fun z => nomatch z⟩ (Fit.mk ?_ ?_)
      · show pl + (film (least ((fs.drop pl).take n))).length ≤ fs.length
        rw [fo, lsl]
        exact n2
      · show (fs.drop pl).take (film (least ((fs.drop pl).take n))).length = film (least ((fs.drop pl).take n))
        rw [fo, lsl]
    refine iteC (decide_eq_false fun z => hw1 (by injection z)) ?_
    refine ⟨_, rfl, _, rfl, _, rfl, _, rfl, _, rfl, ?_⟩
    refine sliceTo mFr (as := more) (i := n) (f10.sm mFr (s11.trans s12)) fun v13 H13 s13 f13 => ?_
    have lsm : (more.take n).length = n := by rw [List.length_take]; omega
    have vsm : ∀ x ∈ more.take n, VF x := fun x hx => vm x (List.mem_of_mem_take hx)
    have nsm : more.take n ≠ [] := fun e => by
      rw [e] at lsm
      exact hn0 lsm.symm
    refine ⟨v13, _, rfl, f13, vsm, by omega, fun H14 v14 s14 r14 => ⟨by show 4 ≤ sizeLine; decide, fun t ht => ?_⟩⟩
    have s15 := sm_new (o := .tup [.str "over", .int (pl : Int), v12, v14]) ht
    have vq := VPart.of_film nm_blk vsm (by omega) nsm
    have lq : len (least (more.take n)) = n := (len_least _).trans lsm
    refine q _ _ ⟨.over, pl, least ((fs.drop pl).take n), least (more.take n)⟩ _ (((t12.trans s13).trans s14).trans s15) ⟨t, v12, [v14], rfl, upd_same, r12.sm ((s13.trans s14).trans s15), .inr ⟨rfl, v14, rfl, r14.sm s15⟩⟩
      ⟨vp, by show len (least ((fs.drop pl).take n)) ≤ 100; omega, fun _ => ⟨vq, by show len (least (more.take n)) = len (least ((fs.drop pl).take n)); omega⟩⟩ (Fit.mk ?_ ?_)
    · show pl + (film (least ((fs.drop pl).take n))).length ≤ fs.length
      rw [fo, lsl]
      exact n2
    · show (fs.drop pl).take (film (least ((fs.drop pl).take n))).length = film (least ((fs.drop pl).take n))
      rw [fo, lsl]
end
end K62
/-! K62, the walk, fourteenth part: deeds acted, lists of deeds, frames by names. -/
namespace K62
open PySem PySem.Spec PyProof.Rows L2
theorem Fit.vf {fs F : List Fs} {d : Ds} (h : Fit fs d.G F) (vd : VDx d) (v : ∀ x ∈ fs, VF x) : ∀ x ∈ F, VF x := by
  obtain ⟨u, z, _, e1, e2⟩ := h
  intro x hx
  rw [e2] at hx
  rcases List.mem_append.mp hx with hx | hx
  · rcases List.mem_append.mp hx with hx | hx
    · exact v x (by rw [e1]; simp [hx])
    · have hx : x ∈ d.new := hx
      unfold Dd.new at hx
      have hq := vd.q
      cases hk : d.k with
      | put =>
        rw [hk] at hx
        exact VPcs.frames vd.p.row.1 x hx
      | out =>
        rw [hk] at hx
        cases hx
      | over =>
        rw [hk] at hx
        exact VPcs.frames (hq hk).1.row.1 x hx
  · exact v x (by rw [e1]; simp [hx])
section
variable {P : Program} {w : World} {K : PySem.W.Frag} {mg : Str → Option Value} {base : Heap}
def spLActed : Sp := fun vs H Q _ => ∃ (fr v : V) (fs F : List Fs) (d : Ds), vs = [fr, v] ∧ IsFilm H fr fs ∧ IsDd H v d ∧ VDx d ∧ Fit fs d.G F ∧ fs.length ≤ 2000 ∧ (∀ x ∈ fs, VF x) ∧ ∀ H' v', Same H H' → IsN IsFr H H' v' F → Q v' H'
theorem ok_lacted (D : DefF K mg "_law_acted" s_law_acted) (T : Tx mg) (c__law_film : C8.Cal P w K mg base 1 "_law_film" spLFilm []) : C8.Cal P w K mg base 2 "_law_acted" spLActed [] := by
  refine D.cal sc_law_acted (fun _ _ _ _ _ _ us hl => match us, hl with | [_, _], _ => rfl) (fun vs H Q E h => ?_) (fun f cdv A outer s H vs Q E hr h => ?_)
  · obtain ⟨_, _, _, _, _, rfl, _⟩ := h
    rfl
  · obtain ⟨fr, v, fs, F, d, rfl, hF, hd, vd, ft, zf, vf, q⟩ := h
    have nd := sc_law_acted.nd
    refine ⟨_, (pss_cons (ps_set (i := 2) nd rfl (Or.inl rfl) (pe_ix ix_tup (pv 1) pe_int (fun _ _ => rfl)))
      (pss_cons (ps_set (i := 3) nd rfl (Or.inl rfl) (C8.pe_c c__law_film hr (by decide) (by rfl) (pa_cons (pe_ix ix_tup (pv 1) pe_int (fun _ _ => rfl)) pa_nil)))
      (pss_cons (ps_if (pt_cmpR op_gt (pv 2) (pe_callB call_len_seq (by rfl) T.b_len bt_len (pa_cons (pv 0) pa_nil)) (nomark _)) (pss_one (ps_ret pe_non)) pss_nil)
      (pss_cons (ps_if (pt_cmpR op_eq (pe_ix ix_tup (pv 1) pe_int (fun _ _ => rfl)) pe_str (nomark _)) (pss_one (ps_ret (pe_op op_cat (pe_op op_cat (pe_slice sl_list (pv 0) po_none (po_some (pv 2))) (pv 3)) (pe_slice sl_list (pv 0) (po_some (pv 2)) po_none)))) pss_nil)
      (pss_cons (ps_if (pt_cmpR (op_neD hr.units) (pe_slice sl_list (pv 0) (po_some (pv 2)) (po_some (pe_op op_add (pv 2) (pe_callB call_len_seq (by rfl) T.b_len bt_len (pa_cons (pv 3) pa_nil))))) (pv 3) (nomark _)) (pss_one (ps_ret pe_non)) pss_nil)
      (pss_cons (ps_set (i := 4) nd rfl (Or.inl rfl) (pe_lst pa_nil))
      (C8.pss_cut (ps_if (pt_cmpR op_eq (pe_ix ix_tup (pv 1) pe_int (fun _ _ => rfl)) pe_str (nomark _)) (pss_one (ps_set (i := 4) nd rfl (Or.inl rfl) (C8.pe_c c__law_film hr (by decide) (by rfl) (pa_cons (pe_ix ix_tup (pv 1) pe_int (fun _ _ => rfl)) pa_nil)))) pss_nil)
      (pss_one (ps_ret (pe_op op_cat (pe_op op_cat (pe_slice sl_list (pv 0) po_none (po_some (pv 2))) (pv 4)) (pe_slice sl_list (pv 0) (po_some (pe_op op_add (pv 2) (pe_callB call_len_seq (by rfl) T.b_len bt_len (pa_cons (pv 3) pa_nil)))) po_none))))))))))), ?_⟩
    obtain ⟨a, r, rfl, hrow, hc⟩ := hd.cs
    obtain ⟨b, xs, rfl, hb, gb⟩ := id hF
    have lxs := gb.len
    have hpl : ∃ ys, H a = some (.tup ys) ∧ ys[1]? = some (.int (d.a : Int)) ∧ ys[2]? = some r := by
      rcases hc with ⟨_, h⟩ | ⟨_, h⟩ | ⟨_, _, _, h⟩ <;> exact ⟨_, h, rfl, rfl⟩
    obtain ⟨ys, hy, hy1, hy2⟩ := hpl
    have at_ : d.a + d.old.length ≤ fs.length := ft.at_
    obtain ⟨e1, e2⟩ := ft.app
    have e1 : F = fs.take d.a ++ d.new ++ fs.drop (d.a + d.old.length) := e1
    have e2 : (fs.drop d.a).take d.old.length = d.old := e2
    have vp := vd.s
    have vnn := vd.new_le
    have vnn : d.new.length ≤ 100 := vnn
    -- place, part
    refine ⟨_, rfl, a, _, _, _, rfl, rfl, sqT hy, atI_nat (j := 1) hy1, ?_⟩
    refine ⟨_, rfl, a, _, _, _, rfl, rfl, sqT hy, atI_nat (j := 2) hy2, r, d.p, rfl, hrow, vd.p.row, fun H1 v1 s1 f1 => ?_⟩
    -- if place > len(frames)
    refine ⟨_, rfl, _, rfl, b, xs, rfl, .inl (sqL (s1 _ _ hb)), _, _, rfl, rfl, _, rfl, iteC (decide_eq_false (by omega)) ?_⟩
    have hF1 := hF.sm s1
    rcases hc with ⟨k, h⟩ | ⟨k, h⟩ | ⟨k, u, hu, h⟩
    · have eo : d.old = [] := by simp [Dd.old, k]
      have en : d.new = film d.p := by simp [Dd.new, k]
      rw [eo] at e1
      rw [en] at e1 vnn
      refine ⟨_, rfl, a, _, _, _, rfl, rfl, sqT (s1 _ _ h), atI_nat (j := 0) rfl, rfl, _, rfl, iteB (decide_eq_true rfl) ?_⟩
      refine ⟨_, rfl, _, rfl, _, rfl, ?_⟩
      refine sliceTo mFr (as := fs) (i := d.a) hF1 fun v2 H2 s2 f2 => ?_
      refine ⟨_, rfl, ?_⟩
      refine catL mFr f2 (f1.sm s2) (by rw [List.length_take]; omega) fun v3 H3 s3 f3 => ?_
      have t3 := s2.trans s3
      refine ⟨_, rfl, _, rfl, _, rfl, ?_⟩
      refine sliceFromN rfl mFr (as := fs) (i := d.a) (hF1.sm t3) fun v4 H4 s4 f4 => ?_
      refine catL mFr (f3.l.sm mFr s4) f4 (by rw [List.length_append, List.length_take, List.length_drop]; omega) fun v5 H5 s5 f5 => ?_
      refine q _ _ (((s1.trans t3).trans s4).trans s5) ?_
      rw [e1]
      exact f5.back ((s1.trans t3).trans s4)
    · have eo : d.old = film d.p := by simp [Dd.old, k]
      have en : d.new = [] := by simp [Dd.new, k]
      rw [eo] at e1 e2 at_
      rw [en] at e1
      rw [film_len] at at_
      refine ⟨_, rfl, a, _, _, _, rfl, rfl, sqT (s1 _ _ h), atI_nat (j := 0) rfl, rfl, _, rfl, iteC (decide_eq_false s_op) ?_⟩
      obtain ⟨c, ws, rfl, hc1, gc1⟩ := id f1
      have lws := gc1.len
      rw [film_len] at lws
      refine ⟨_, rfl, _, rfl, _, rfl, _, rfl, _, rfl, c, ws, rfl, .inl (sqL hc1), _, _, rfl, rfl, _, rfl, ?_⟩
      refine sliceMid mFr (as := fs) (i := d.a) (n := ws.length) hF1 (by omega) fun v2 H2 s2 f2 => ?_
      refine ⟨_, rfl, _, _, (film_is.mpr f2).dp, (f1.sm s2).dp, film_sh (fun x hx => vf x (List.mem_of_mem_drop (List.mem_of_mem_take hx))), film_sh (VPcs.frames vd.p.row.1), _, rfl, iteC ?_ ?_⟩
      · rw [film_eqv]
        refine ndf ?_
        rw [lws, ← film_len]
        exact e2
      refine ⟨Nat.zero_le _, fun lm hlm => ?_⟩
      have s3 := sm_new (o := .lst []) hlm
      have t3 := (s1.trans s2).trans s3
      refine ⟨fun σ' H' => ∃ vm, σ' = [some (.ref b), some (.ref a), some (.int (d.a : Int)), some (.ref c), some vm] ∧ Same (upd H2 lm (.lst [])) H' ∧ IsL IsFr H' vm d.new, ?_, ?_⟩
      · refine ⟨_, rfl, a, _, _, _, rfl, rfl, sqT (t3 _ _ h), atI_nat (j := 0) rfl, rfl, _, rfl, iteC (decide_eq_false s_ov) ?_⟩
        refine ⟨.ref lm, rfl, Same.refl _, ?_⟩
        rw [en]
        exact ⟨lm, [], rfl, upd_same, trivial⟩
      rintro σ' H4 ⟨vm, rfl, s4, fm⟩
      have t4 := t3.trans s4
      refine ⟨_, rfl, _, rfl, _, rfl, ?_⟩
      refine sliceTo mFr (as := fs) (i := d.a) (hF.sm t4) fun v5 H5 s5 f5 => ?_
      refine ⟨_, rfl, ?_⟩
      refine catL mFr f5 (fm.sm mFr s5) (by rw [List.length_take]; omega) fun v6 H6 s6 f6 => ?_
      have t6 := (t4.trans s5).trans s6
      refine ⟨_, rfl, _, rfl, _, rfl, c, ws, rfl, .inl (sqL (((((s2.trans s3).trans s4).trans s5).trans s6) _ _ hc1)), _, _, rfl, rfl, _, rfl, ?_⟩
      have e9 : V.int ((d.a : Int) + (ws.length : Int)) = V.int ((d.a + len d.p : Nat) : Int) := congrArg V.int (by omega)
      have e8 : (d.a : Int) + (ws.length : Int) = ((d.a + len d.p : Nat) : Int) := by omega
      refine sliceFromN e8 mFr (as := fs) (i := d.a + len d.p) (hF.sm t6) fun v7 H7 s7 f7 => ?_
      refine catL mFr (f6.l.sm mFr s7) f7 (by rw [List.length_append, List.length_take, List.length_drop]; omega) fun v8 H8 s8 f8 => ?_
      refine q _ _ ((t6.trans s7).trans s8) ?_
      rw [e1, film_len, ← en]
      exact f8.back (t6.trans s7)
    · obtain ⟨vq, eq⟩ := vd.q k
      have eo : d.old = film d.p := by simp [Dd.old, k]
      have en : d.new = film d.q := by simp [Dd.new, k]
      rw [eo] at e1 e2 at_
      rw [film_len] at at_
      refine ⟨_, rfl, a, _, _, _, rfl, rfl, sqT (s1 _ _ h), atI_nat (j := 0) rfl, rfl, _, rfl, iteC (decide_eq_false s_vp) ?_⟩
      obtain ⟨c, ws, rfl, hc1, gc1⟩ := id f1
      have lws := gc1.len
      rw [film_len] at lws
      refine ⟨_, rfl, _, rfl, _, rfl, _, rfl, _, rfl, c, ws, rfl, .inl (sqL hc1), _, _, rfl, rfl, _, rfl, ?_⟩
      refine sliceMid mFr (as := fs) (i := d.a) (n := ws.length) hF1 (by omega) fun v2 H2 s2 f2 => ?_
      refine ⟨_, rfl, _, _, (film_is.mpr f2).dp, (f1.sm s2).dp, film_sh (fun x hx => vf x (List.mem_of_mem_drop (List.mem_of_mem_take hx))), film_sh (VPcs.frames vd.p.row.1), _, rfl, iteC ?_ ?_⟩
      · rw [film_eqv]
        refine ndf ?_
        rw [lws, ← film_len]
        exact e2
      refine ⟨Nat.zero_le _, fun lm hlm => ?_⟩
      have s3 := sm_new (o := .lst []) hlm
      have t3 := (s1.trans s2).trans s3
      refine ⟨fun σ' H' => ∃ vm, σ' = [some (.ref b), some (.ref a), some (.int (d.a : Int)), some (.ref c), some vm] ∧ Same (upd H2 lm (.lst [])) H' ∧ IsL IsFr H' vm d.new, ?_, ?_⟩
      · refine ⟨_, rfl, a, _, _, _, rfl, rfl, sqT (t3 _ _ h), atI_nat (j := 0) rfl, rfl, _, rfl, iteB (decide_eq_true rfl) ?_⟩
        refine ⟨_, rfl, a, _, _, _, rfl, rfl, sqT (t3 _ _ h), atI_nat (j := 3) rfl, u, d.q, rfl, hu.sm t3, vq.row, fun H4 v4 s4 f4 => ?_⟩
        refine ⟨v4, rfl, s4, ?_⟩
        rw [en]
        exact f4
      rintro σ' H4 ⟨vm, rfl, s4, fm⟩
      have t4 := t3.trans s4
      refine ⟨_, rfl, _, rfl, _, rfl, ?_⟩
      refine sliceTo mFr (as := fs) (i := d.a) (hF.sm t4) fun v5 H5 s5 f5 => ?_
      refine ⟨_, rfl, ?_⟩
      refine catL mFr f5 (fm.sm mFr s5) (by rw [List.length_take]; omega) fun v6 H6 s6 f6 => ?_
      have t6 := (t4.trans s5).trans s6
      refine ⟨_, rfl, _, rfl, _, rfl, c, ws, rfl, .inl (sqL (((((s2.trans s3).trans s4).trans s5).trans s6) _ _ hc1)), _, _, rfl, rfl, _, rfl, ?_⟩
      have e8 : (d.a : Int) + (ws.length : Int) = ((d.a + len d.p : Nat) : Int) := by omega
      refine sliceFromN e8 mFr (as := fs) (i := d.a + len d.p) (hF.sm t6) fun v7 H7 s7 f7 => ?_
      refine catL mFr (f6.l.sm mFr s7) f7 (by rw [List.length_append, List.length_take, List.length_drop]; omega) fun v8 H8 s8 f8 => ?_
      refine q _ _ ((t6.trans s7).trans s8) ?_
      rw [e1, film_len]
      exact f8.back (t6.trans s7)
def spLList (K : PySem.W.Frag) : Sp := fun vs H Q _ => ∃ (v fr u : V) (k : Int) (fs : List Fs) (zs : List Str), vs = [v, .int k, fr, u] ∧ Scr K H v ∧ IsFilm H fr fs ∧ (∀ x ∈ fs, VF x) ∧ fs.length ≤ 100 ∧ IsStrs H u zs ∧ zs.length = 3 ∧ (∀ z ∈ zs, Nm z) ∧
  ∀ H' v' (ds : List Ds) F, Same H H' → IsDds H' v' ds → VDxs ds → FitL fs (ds.map Dd.G) F → ds.length ≤ 3 → Q v' H'
theorem FitL.snoc {α : Type} {g : G α} : ∀ {gs : List (G α)} {l m r : List α}, FitL l gs m → Fit m g r → FitL l (gs ++ [g]) r
  | [], l, m, r, h, k => by
    have h : l = m := h
    subst h
    exact ⟨r, k, rfl⟩
  | _ :: _, l, m, r, ⟨n, h1, h2⟩, k => ⟨n, h1, FitL.snoc h2 k⟩
theorem ok_llist (D : DefF K mg "_law_list" s_law_list) (T : Tx mg) (c__law_drawn : C8.Cal P w K mg base 2 "_law_drawn" (spDrawn K) []) (c__law_deed : C8.Cal P w K mg base 5 "_law_deed" (spLDeed K) []) (c__law_acted : C8.Cal P w K mg base 2 "_law_acted" spLActed []) : C8.Cal P w K mg base 6 "_law_list" (spLList K) [] := by
  refine D.cal sc_law_list (fun _ _ _ _ _ _ us hl => match us, hl with | [_, _, _, _], _ => rfl) (fun vs H Q E h => ?_) (fun f cdv A outer s H vs Q E hr h => ?_)
  · obtain ⟨_, _, _, _, _, _, rfl, _⟩ := h
    rfl
  · obtain ⟨v, fr, u, k0, fs, zs, rfl, hS, hF, vf, zf, hN, lz, hz, q⟩ := h
    have nd := sc_law_list.nd
    refine ⟨_, (pss_cons (ps_set (i := 4) nd rfl (Or.inl rfl) (pe_lst pa_nil))
      (pss_cons (ps_for PassesOwn.never rfl (pi_range1 (by rfl) T.b_range (pa_cons (C8.pe_c c__law_drawn hr (by decide) (by rfl) (pa_cons (pv 0) (pa_cons (pv 1) (pa_cons pe_int pa_nil)))) pa_nil)) (pg_name (i := 5) nd rfl (Or.inl rfl)) (pss_cons (ps_set (i := 6) nd rfl (Or.inl rfl) (C8.pe_c c__law_deed hr (by decide) (by rfl) (pa_cons (pv 0) (pa_cons (pe_op op_add (pe_op op_add (pv 1) pe_int) (pe_op op_mul pe_int (pv 5))) (pa_cons (pv 2) (pa_cons (pv 3) (pa_cons pe_int pa_nil)))))))
      (pss_cons (ps_set (i := 2) nd rfl (Or.inl rfl) (C8.pe_c c__law_acted hr (by decide) (by rfl) (pa_cons (pv 2) (pa_cons (pv 6) pa_nil))))
      (pss_one (ps_expr (pe_bm PySem.F.plainAttrs_list PySem.F.slot_list_append PySem.F.type_list_append mt_append (pv 4) (pa_cons (pv 6) pa_nil)))))))
      (pss_one (ps_ret (pv 4))))), ?_⟩
    refine ⟨Nat.zero_le _, fun l hl => ?_⟩
    have s1 := sm_new (o := .lst []) hl
    refine ⟨_, rfl, _, rfl, v, _, 4, rfl, hS.sm s1, by decide, fun H2 i2 s2 h20 h21 => ⟨_, rfl, by omega, by omega, ?_⟩⟩
    have g2 : Grow IsDd H H2 l [] := (Grow.start (Same.refl H) hl).keep mDd s2
    refine for_it (walk_r0 (n := i2.toNat)) (fun i σ H' => ∃ (b : Addr) (xs : List V) (F : List Fs) (ds : List Ds) (u1 u2 : Option V), σ = [some v, some (.int k0), some (.ref b), some u, some (.ref l), u1, u2] ∧ Grow IsDd H H' l ds ∧ b ≠ l ∧ H' b = some (.lst xs) ∧ All2 (IsFr H') xs F ∧ VDxs ds ∧ ds.length = i ∧ FitL fs (ds.map Dd.G) F ∧ (∀ x ∈ F, VF x) ∧ F.length ≤ 100 + 100 * i) ?_ (fun _ _ _ _ _ => trivial) ?_ ?_
    · obtain ⟨b, xs, rfl, hb, gb⟩ := hF
      have t2 := s1.trans s2
      exact ⟨b, xs, fs, [], none, none, rfl, g2, ne_of_none hb hl, t2 _ _ hb, gb.mono fun _ _ z => z.ts (ts_of t2), (fun _ h => nomatch h), rfl, rfl, vf, by omega⟩
    · rintro i x σ H3 H4 hi ⟨b, xs, F, ds, _, _, rfl, g, nb, hb, gb, vds, lds, ftl, vF, zF⟩ ⟨rfl, rfl⟩
      have hi3 : i < 3 := by omega
      have lF : F.length ≤ 400 := by omega
      -- deed
      refine ⟨_, rfl, _, rfl, _, _, rfl, rfl, _, rfl, _, _, rfl, rfl, .inl ⟨by decide, by decide⟩, _, _, rfl, rfl, _, rfl, _, rfl, v, .ref b, u, _, 6, F, zs, rfl, hS.sm g.sm, ⟨b, xs, rfl, hb, gb⟩, vF, by omega, hN.sm g.sm, lz, hz, fun H5 v5 d F5 s5 r5 vd5 ft5 => ?_⟩
      -- frames
      refine ⟨_, rfl, _, rfl, .ref b, v5, F, F5, d, rfl, ⟨b, xs, rfl, s5 _ _ hb, gb.mono fun _ _ z => z.ts (ts_of s5)⟩, r5, vd5, ft5, by omega, vF, fun H6 v6 s6 f6 => ?_⟩
      obtain ⟨b6, xs6, rfl, n6, hb6, gb6⟩ := f6
      have g5 := g.keep mDd s5
      have g6 := g5.keep mDd s6
      have r6 := r5.sm s6
      obtain ⟨ws5, hw5, _⟩ := g5.ls
      have nb6 : b6 ≠ l := (ne_of_none hw5 n6).symm
      obtain ⟨ws, hw, gw⟩ := g6.ls
      refine ⟨_, rfl, .inl ⟨rfl, _, sqL hw⟩, _, rfl, l, ws, v5, rfl, rfl, hw, sz_lt (by rw [gw.len]; omega), ?_⟩
      have ts7 : TS H6 (upd H6 l (.lst (ws ++ [v5]))) := TS.lst hw
      have e5 := ft5.len
      have e6 := vd5.new_le
      refine ⟨b6, xs6, F5, ds ++ [d], _, _, rfl, g6.more mDd hw gw (.one r6), nb6, by rw [upd_ne nb6]; exact hb6, gb6.mono fun _ _ z => z.ts ts7, fun e he => ?_, by rw [List.length_append, lds]; rfl, ?_, Fit.vf ft5 vd5 vF, by omega⟩
      · rcases List.mem_append.mp he with he | he
        · exact vds e he
        · rw [List.mem_singleton.mp he]
          exact vd5
      · rw [List.map_append]
        exact ftl.snoc ft5
    · rintro σ H3 ⟨b, xs, F, ds, _, _, rfl, g, nb, hb, gb, vds, lds, ftl, vF, zF⟩
      obtain ⟨ws, hw, gw⟩ := g.ls
      exact ⟨_, rfl, q _ _ ds F g.sm ⟨l, ws, rfl, hw, gw⟩ vds ftl (by omega)⟩
end
end K62
/-! K62, the walk, fifteenth part: frames by names, and the law. -/
namespace K62
open PySem PySem.Spec PyProof.Rows L2
theorem nstep_len (who : Int) (l : List Tag) (i : Nat) (d : Ds) (v : VDx d) : (nstep who l i d).length ≤ l.length + 100 := by
  have h1 := v.nle
  have h2 := nn_len who i d
  unfold nstep
  rw [List.length_append, List.length_append, List.length_take, List.length_drop]
  omega
theorem any_mem (t : Tag) : ∀ ts : List Tag, ((ts.map tgD).any fun z => PyData.eqv z (tgD t)) = decide (t ∈ ts)
  | [] => by simp
  | x :: ts => by
    rw [List.map_cons, List.any_cons, any_mem t ts, tgD_eqv]
    by_cases h1 : x = t
    · subst h1
      simp
    · by_cases h2 : t ∈ ts <;> simp [h1, h2, Ne.symm h1]
theorem dec_int (a b : Int) : decide (V.int a = V.int b) = decide (a = b) := by
  by_cases h : a = b
  · rw [decide_eq_true h, decide_eq_true (congrArg V.int h)]
  · rw [decide_eq_false h, decide_eq_false fun z => h (by injection z)]
/-- a comprehension that keeps some of a list of tags -/
theorem lcf {K : PySem.W.Frag} {H1 : Hp} {a : Addr} {xs : List V} {ts : List Tag} (hx : H1 a = some (.lst xs)) (ha : All2 (IsTag H1) xs ts) (p : Tag → Bool) {k : Nat} {tt : TT} {te : TE} {vs : List Nat} {σ : L2.St} {D : Addr} {Qd : Hp → Prop}
    (hD : H1 D = none) (hn : ts.length ≤ 90000) (hw : ∀ x, wipe ((wipe σ vs).set k (some x)) vs = wipe σ vs) (ht : ∀ x t H, Same H1 H → IsTag H x t → T0 tt ((wipe σ vs).set k (some x)) H (p t))
    (he : ∀ x H (Q : VK), Q x H → te ((wipe σ vs).set k (some x)) H Q) (hd : ∀ H ys, Same H1 H → H D = some (.lst ys) → All2 (IsTag H) ys (ts.filter p) → Qd H) :
    ∃ W : Nat → Nat → Hp → Prop, (∃ m, W 0 m (upd H1 D (.lst []))) ∧ ∀ i m H, W i m H →
      ((Itl K a).stop i H ∧ Qd H) ∨ ((Itl K a).go i H ∧ ∃ Nx : Hp → Prop, (∀ H', Nx H' → ∃ m', m' < m ∧ W (i + 1) m' H') ∧ ∀ x H', (Itl K a).yld i H x H' → gName k x (wipe σ vs) H' fun σ2 H2 => wipe σ2 vs = wipe σ vs ∧ tt σ2 H2 fun b H3 =>
        if b = true then te σ2 H3 fun y H4 => ∃ acc, H4 D = some (.lst acc) ∧ acc.length < sizeLine ∧ Nx (upd H4 D (.lst (acc ++ [y]))) else Nx H3) := by
  have lx := ha.len
  refine lc_it (walk_list (xs := xs)) (fun i H => Same H1 H ∧ ∃ ys, H D = some (.lst ys) ∧ All2 (IsTag H) ys ((ts.take i).filter p)) ⟨sm_new hD, [], upd_same, trivial⟩ (fun i H _ q => sqL (q.1 _ _ hx)) (fun i x H H' hi q y => ?_) (fun H q => ?_)
  · obtain ⟨s1, ys, hy, hg⟩ := q
    obtain ⟨rfl, ex⟩ := y
    obtain ⟨t, et, hxt⟩ := ha.get ex
    refine ⟨hw x, ht x t H' s1 (hxt.ts (ts_of s1)) _ ?_⟩
    have ef : (ts.take (i + 1)).filter p = (ts.take i).filter p ++ (if p t = true then [t] else []) := by
      rw [take_snoc et, List.filter_append]
      by_cases hp : p t = true
      · rw [List.filter_cons, if_pos hp, if_pos hp]
        rfl
      · rw [List.filter_cons, if_neg hp, if_neg hp]
        rfl
    have lf : ((ts.take i).filter p).length ≤ ts.length := Nat.le_trans (List.length_filter_le _ _) (by rw [List.length_take]; omega)
    cases hp : p t with
    | true =>
      rw [if_pos rfl]
      refine he x H' _ ⟨ys, hy, sz_lt (by rw [hg.len]; omega), sm_mut s1 hD, ys ++ [x], upd_same, ?_⟩
      rw [ef, hp, if_pos rfl]
      have tl : TS H' (upd H' D (.lst (ys ++ [x]))) := TS.lst hy
      exact (hg.mono fun _ _ z => z.ts tl).snoc ((hxt.ts (ts_of s1)).ts tl)
    | false =>
      rw [if_neg Bool.false_ne_true]
      refine ⟨s1, ys, hy, ?_⟩
      rw [ef, hp, if_neg Bool.false_ne_true, List.append_nil]
      exact hg
  · obtain ⟨s1, ys, hy, hg⟩ := q
    rw [lx, List.take_length] at hg
    exact hd H ys s1 hy hg
theorem t0_or {t u : TT} {σ : L2.St} {H : Hp} {a b : Bool} (h1 : T0 t σ H a) (h2 : a = false → T0 u σ H b) : T0 (tOr t u) σ H (a || b) := fun Q q => h1 _ (by
  cases a with
  | true => exact q
  | false => exact h2 rfl Q q)
section
variable {P : Program} {w : World} {K : PySem.W.Frag} {mg : Str → Option Value} {base : Heap}
def spLNamed : Sp := fun vs H Q _ => ∃ (v u : V) (n : Int) (ts : List Tag) (ds : List Ds), vs = [v, u, .int n] ∧ IsTags H v ts ∧ IsDds H u ds ∧ VDxs ds ∧ ts.length ≤ 1000 ∧ ds.length ≤ 3 ∧ ∀ H' v', Same H H' → IsTags H' v' (named n ts 0 ds) → Q v' H'
theorem ok_lnamed (D : DefF K mg "_law_named" s_law_named) (T : Tx mg) : C8.Cal P w K mg base 1 "_law_named" spLNamed [] := by
  refine D.cal sc_law_named (fun _ _ _ _ _ _ us hl => match us, hl with | [_, _, _], _ => rfl) (fun vs H Q E h => ?_) (fun f cdv A outer s H vs Q E hr h => ?_)
  · obtain ⟨_, _, _, _, _, rfl, _⟩ := h
    rfl
  · obtain ⟨v, _, n, ts, ds, rfl, hT, ⟨a, xs, rfl, hp, ha⟩, vd, zt, zd, q⟩ := h
    have nd := sc_law_named.nd
    have lx := ha.len
    refine ⟨_, (pss_cons (ps_for PassesOwn.never rfl (pi_enum (by rfl) T.b_enumerate (pa_cons (pv 1) pa_nil)) (pg_tup rfl (pgs_cons (pg_name (i := 3) nd rfl (Or.inr rfl)) (pgs_cons (pg_name (i := 4) nd rfl (Or.inl rfl)) pgs_nil))) (pss_cons (ps_set (i := 5) nd rfl (Or.inl rfl) (pe_callB (cr_sum rfl) (by rfl) T.b_sum bt_sum (pa_cons (pe_lc (own := [("_law_piece_here", 8)]) (g := gName 8) rfl nd (pi_tup (pe_ix ix_tup (pv 4) pe_int (fun _ _ => rfl))) (blkOk_by (N := N_law_named) (sc := defScope s_law_named) (by decide +kernel)) (fun _ _ _ _ _ => pg_name (i := 8) nd rfl (Or.inl rfl)) (fun _ _ _ _ _ => pts_nil) (fun _ _ _ _ _ => (pe_ix (r := rIxT K) ix_tup (pv 8) pe_int (fun _ _ => rfl)))) pa_nil)))
      (pss_cons (ps_setLc (i := 6) (own := [("_law_k", 7)]) (g := gName 7) rfl nd rfl rfl (sw_true rfl rfl rfl (by decide +kernel)) (pi_range1 (by rfl) T.b_range (pa_cons (pv 5) pa_nil)) (blkOk_by (N := N_law_named) (sc := defScope s_law_named) (by decide +kernel)) (fun _ _ _ _ _ => pg_name (i := 7) nd rfl (Or.inl rfl)) (fun _ _ _ _ _ => pts_nil) (fun _ _ _ _ _ => (pe_tup (pa_cons (pv 2) (pa_cons (pv 3) (pa_cons (pv 7) pa_nil))))))
      (pss_one (ps_if (pt_cmpR op_eq (pe_ix ix_tup (pv 4) pe_int (fun _ _ => rfl)) pe_str (nomark _)) (pss_one (ps_set (i := 0) nd rfl (Or.inl rfl) (pe_op op_cat (pe_op op_cat (pe_slice sl_list (pv 0) po_none (po_some (pe_ix ix_tup (pv 4) pe_int (fun _ _ => rfl)))) (pv 6)) (pe_slice sl_list (pv 0) (po_some (pe_ix ix_tup (pv 4) pe_int (fun _ _ => rfl))) po_none)))) (pss_one (ps_if (pt_cmpR op_eq (pe_ix ix_tup (pv 4) pe_int (fun _ _ => rfl)) pe_str (nomark _)) (pss_one (ps_set (i := 0) nd rfl (Or.inl rfl) (pe_op op_cat (pe_slice sl_list (pv 0) po_none (po_some (pe_ix ix_tup (pv 4) pe_int (fun _ _ => rfl)))) (pe_slice sl_list (pv 0) (po_some (pe_op op_add (pe_ix ix_tup (pv 4) pe_int (fun _ _ => rfl)) (pv 5))) po_none)))) (pss_one (ps_set (i := 0) nd rfl (Or.inl rfl) (pe_op op_cat (pe_op op_cat (pe_slice sl_list (pv 0) po_none (po_some (pe_ix ix_tup (pv 4) pe_int (fun _ _ => rfl)))) (pv 6)) (pe_slice sl_list (pv 0) (po_some (pe_op op_add (pe_ix ix_tup (pv 4) pe_int (fun _ _ => rfl)) (pv 5))) po_none)))))))))))
      (pss_one (ps_ret (pv 0)))), ?_⟩
    refine ⟨_, rfl, a, xs, rfl, sqL hp, ?_⟩
    refine for_it (walk_enum (xs := xs)) (fun i σ H' => ∃ (vf : V) (u1 u2 u3 u4 u5 u6 : Option V), σ = [some vf, some (.ref a), some (.int n), u1, u2, u3, u4, u5, u6] ∧ Same H H' ∧ IsTags H' vf (named n ts 0 (ds.take i)) ∧ (named n ts 0 (ds.take i)).length ≤ 1000 + 100 * i)
      ⟨v, none, none, none, none, none, none, rfl, Same.refl H, hT, zt⟩ (fun i σ H' _ q => ?_) ?_ ?_
    · obtain ⟨_, _, _, _, _, _, _, _, s1, _⟩ := q
      exact sqL (s1 _ _ hp)
    · rintro i x σ H1 H2 hi ⟨vf, _, _, _, _, w5, w6, rfl, s1, hV, zV⟩ ⟨T0', x0, y0, rfl, hT0, rfl, hx0, hy0⟩
      cases hx0
      obtain ⟨d, ed, hd0⟩ := ha.get hy0
      have vdd := vd d (List.mem_of_getElem? ed)
      have hi3 : i < 3 := by
        have := at_lt ed
        omega
      have enx : named n ts 0 (ds.take (i + 1)) = nstep n (named n ts 0 (ds.take i)) i d := by
        rw [take_snoc ed, named_snoc, Nat.zero_add, List.length_take, Nat.min_eq_left (Nat.le_of_lt (at_lt ed))]
      rw [enx]
      have zst := nstep_len n (named n ts 0 (ds.take i)) i d vdd
      have s2 := sm_new (o := .tup [.int (i : Nat), y0]) hT0
      have t2 := s1.trans s2
      have hd := hd0.sm t2
      have hV2 := hV.sm s2
      generalize named n ts 0 (ds.take i) = cur at hV2 zV zst
      obtain ⟨b, r, rfl, hrow, hc⟩ := hd.cs
      obtain ⟨ar, ps, rfl, hr1, hr2⟩ := hrow
      have hs := VRow.short vdd.p.row
      have hpl : ∃ ys, (upd H1 T0' (.tup [.int (i : Nat), .ref b])) b = some (.tup ys) ∧ ys[0]? = some (.str (kw d.k)) ∧ ys[1]? = some (.int (d.a : Int)) ∧ ys[2]? = some (.ref ar) := by
        rcases hc with ⟨k, h⟩ | ⟨k, h⟩ | ⟨k, _, _, h⟩ <;> exact ⟨_, h, by rw [k]; rfl, rfl, rfl⟩
      obtain ⟨ys, hy, hy0', hy1, hy2⟩ := hpl
      -- number, deed
      refine ⟨T0', _, rfl, sqT upd_same, rfl, _, _, rfl, _, _, rfl, rfl, ?_⟩
      generalize upd H1 T0' (.tup [.int (i : Nat), .ref b]) = H3 at s2 t2 hd hV2 hr1 hr2 hc hy
      -- size
      refine ⟨_, rfl, b, _, _, _, rfl, rfl, sqT hy, atI_nat (j := 2) hy2, ar, rfl, ⟨ps, sqT hr1⟩, fun D hD => ?_⟩
      refine lcw (walk_tup (xs := ps)) (R := fun _ v b => v = V.int b) mEx (d.p.map fun p => (p.m : Int)) (by rw [List.length_map, hr2.len]) hD (by rw [hr2.len]; omega) (fun H' s' => sqT (s' _ _ hr1)) (fun j c x H0 H4 hj s0 y Q k => ?_) (fun H4 zs s4 h4 g4 => ?_)
      · obtain ⟨rfl, hx⟩ := y
        obtain ⟨p, ep, ⟨c1, rfl, hc1⟩⟩ := hr2.get hx
        rw [List.getElem?_map, ep] at hj
        cases hj
        exact ⟨rfl, _, rfl, c1, _, _, _, rfl, rfl, sqT (s0 _ _ hc1), atI_nat (j := 3) rfl, k _ _ (Same.refl _) rfl⟩
      refine ⟨D, d.p.map fun p => (p.m : Int), rfl, sqL (all2_map (f := V.int) g4 ▸ h4), ?_⟩
      rw [sum_len]
      -- new
      have vs := vdd.s
      refine ⟨_, rfl, _, rfl, by omega, by omega, fun D2 hD2 => ?_⟩
      refine lcw (walk_r0 (n := ((len d.p : Nat) : Int).toNat)) (R := IsTag) mTag (names n i (len d.p)) (by simp [names]) hD2 (by omega) (fun _ _ => trivial) (fun j c x H0 H5 hj s0 y Q k => ?_) (fun H5 ws s5 h5 g5 => ?_)
      · obtain ⟨rfl, rfl⟩ := y
        have hj2 : c = ⟨n, (i : Int), (j : Int)⟩ := by
          unfold names at hj
          rw [List.getElem?_map] at hj
          obtain ⟨j', ej, rfl⟩ := Option.map_eq_some_iff.mp hj
          obtain ⟨h1, h2⟩ := List.getElem?_eq_some_iff.mp ej
          rw [List.getElem_range] at h2
          rw [← h2]
        subst hj2
        exact ⟨rfl, _, rfl, _, rfl, _, rfl, by show 3 ≤ sizeLine; decide, fun t ht => k _ _ (sm_new ht) ⟨t, rfl, upd_same⟩⟩
      have t5 := s4.trans s5
      have hN : IsL IsTag H5 (.ref D2) (names n i (len d.p)) := ⟨D2, ws, rfl, h5, g5⟩
      have hV5 : IsL IsTag H5 vf cur := hV2.sm t5
      have hy5 := t5 _ _ hy
      have ln : (names n i (len d.p)).length = len d.p := by simp [names]
      have fin : ∀ (ts' : List Tag) v6 H6, ts' = nstep n cur i d → Same H5 H6 → IsL IsTag H6 v6 ts' → ∃ (vf : V) (u1 u2 u3 u4 u5 u6 : Option V), ([some v6, some (.ref a), some (.int n), some (.int (i : Nat)), some (.ref b), some (.int (len d.p : Int)), some (.ref D2), w5, w6] : L2.St) = [some vf, some (.ref a), some (.int n), u1, u2, u3, u4, u5, u6] ∧ Same H H6 ∧ IsTags H6 vf (nstep n cur i d) ∧ (nstep n cur i d).length ≤ 1000 + 100 * (i + 1) := by
        intro ts' v6 H6 e s6 h6
        subst e
        exact ⟨v6, _, _, _, _, _, _, rfl, (t2.trans t5).trans s6, h6, by omega⟩
      have zc : cur.length ≤ 1300 := by omega
      rcases hc with ⟨k, h⟩ | ⟨k, h⟩ | ⟨k, u, hu, h⟩
      · rw [k] at hy0'
        refine ⟨_, rfl, b, _, _, _, rfl, rfl, sqT hy5, atI_nat (j := 0) hy0', rfl, _, rfl, iteB (decide_eq_true rfl) ?_⟩
        refine ⟨_, rfl, _, rfl, b, _, _, _, rfl, rfl, sqT hy5, atI_nat (j := 1) hy1, _, rfl, ?_⟩
        refine sliceTo mTag hV5 fun v6 H6 s6 h6 => ⟨_, rfl, ?_⟩
        refine catL mTag h6 (hN.sm mTag s6) (by rw [List.length_take]; omega) fun v7 H7 s7 h7 => ?_
        have u7 := s6.trans s7
        refine ⟨_, rfl, _, rfl, b, _, _, _, rfl, rfl, sqT (u7 _ _ hy5), atI_nat (j := 1) hy1, _, rfl, ?_⟩
        refine sliceFromN rfl mTag (hV5.sm mTag u7) fun v8 H8 s8 h8 => ?_
        refine catL mTag (h7.l.sm mTag s8) h8 (by rw [List.length_append, List.length_take, List.length_drop]; omega) fun v9 H9 s9 h9 => ?_
        exact fin _ v9 H9 (by simp [nstep, nn, Dd.o, k]) ((u7.trans s8).trans s9) h9.l
      · rw [k] at hy0'
        refine ⟨_, rfl, b, _, _, _, rfl, rfl, sqT hy5, atI_nat (j := 0) hy0', rfl, _, rfl, iteC (decide_eq_false s_op) ?_⟩
        refine ⟨_, rfl, b, _, _, _, rfl, rfl, sqT hy5, atI_nat (j := 0) hy0', rfl, _, rfl, iteB (decide_eq_true rfl) ?_⟩
        refine ⟨_, rfl, _, rfl, b, _, _, _, rfl, rfl, sqT hy5, atI_nat (j := 1) hy1, _, rfl, ?_⟩
        refine sliceTo mTag hV5 fun v6 H6 s6 h6 => ?_
        refine ⟨_, rfl, _, rfl, b, _, _, _, rfl, rfl, sqT (s6 _ _ hy5), atI_nat (j := 1) hy1, _, rfl, _, _, rfl, rfl, _, rfl, ?_⟩
        have e8 : (d.a : Int) + (len d.p : Int) = ((d.a + len d.p : Nat) : Int) := by omega
        refine sliceFromN e8 mTag (hV5.sm mTag s6) fun v8 H8 s8 h8 => ?_
        refine catL mTag (h6.sm mTag s8) h8 (by rw [List.length_take, List.length_drop]; omega) fun v9 H9 s9 h9 => ?_
        exact fin _ v9 H9 (by simp [nstep, nn, Dd.o, k]) ((s6.trans s8).trans s9) h9.l
      · rw [k] at hy0'
        refine ⟨_, rfl, b, _, _, _, rfl, rfl, sqT hy5, atI_nat (j := 0) hy0', rfl, _, rfl, iteC (decide_eq_false s_vp) ?_⟩
        refine ⟨_, rfl, b, _, _, _, rfl, rfl, sqT hy5, atI_nat (j := 0) hy0', rfl, _, rfl, iteC (decide_eq_false s_vo) ?_⟩
        refine ⟨_, rfl, _, rfl, b, _, _, _, rfl, rfl, sqT hy5, atI_nat (j := 1) hy1, _, rfl, ?_⟩
        refine sliceTo mTag hV5 fun v6 H6 s6 h6 => ⟨_, rfl, ?_⟩
        refine catL mTag h6 (hN.sm mTag s6) (by rw [List.length_take]; omega) fun v7 H7 s7 h7 => ?_
        have u7 := s6.trans s7
        refine ⟨_, rfl, _, rfl, b, _, _, _, rfl, rfl, sqT (u7 _ _ hy5), atI_nat (j := 1) hy1, _, rfl, _, _, rfl, rfl, _, rfl, ?_⟩
        have e8 : (d.a : Int) + (len d.p : Int) = ((d.a + len d.p : Nat) : Int) := by omega
        refine sliceFromN e8 mTag (hV5.sm mTag u7) fun v8 H8 s8 h8 => ?_
        refine catL mTag (h7.l.sm mTag s8) h8 (by rw [List.length_append, List.length_take, List.length_drop]; omega) fun v9 H9 s9 h9 => ?_
        exact fin _ v9 H9 (by simp [nstep, nn, Dd.o, k]) ((u7.trans s8).trans s9) h9.l
    · rintro σ H1 ⟨vf, _, _, _, _, _, _, rfl, s1, hV, _⟩
      rw [lx, List.take_length] at hV
      exact ⟨_, rfl, q _ _ s1 hV⟩
end
end K62
/-! K62, the walk, sixteenth part: the law. -/
namespace K62
open PySem PySem.Spec PyProof.Rows L2
section
variable {P : Program} {w : World} {K : PySem.W.Frag} {mg : Str → Option Value} {base : Heap}
theorem t_in {H : Hp} {σ : L2.St} {k j : Nat} {x v : V} {t : Tag} {ts : List Tag} (hk : σ[k]? = some (some x)) (hj : σ[j]? = some (some v)) (hx : IsTag H x t) (hv : IsTags H v ts) : T0 (tTest (tOp (rInD K) (tVar k) (tVar j))) σ H (decide (t ∈ ts)) := fun Q q => by
  refine ⟨x, hk, v, hj, tgD t, ts.map tgD, hx.dp, hv.dp, tgD_sh t, tags_sh ts, _, rfl, ?_⟩
  rw [any_mem]
  exact q
theorem t_w {H : Hp} {σ : L2.St} {k : Nat} {x : V} {t : Tag} {n : Int} (hk : σ[k]? = some (some x)) (hx : IsTag H x t) : T0 (tTest (tOp rEq (tOp (rIxT K) (tVar k) (tC (.int 0))) (tC (.int n)))) σ H (decide (t.w = n)) := fun Q q => by
  obtain ⟨c, rfl, hc⟩ := hx
  refine ⟨_, hk, c, _, _, _, rfl, rfl, sqT hc, atI_nat (j := 0) rfl, rfl, _, rfl, ?_⟩
  rw [dec_int]
  exact q
theorem FitL.len3 {fs F : List Fs} {ds : List Ds} (h : FitL fs (ds.map Dd.G) F) (vd : VDxs ds) (hl : ds.length ≤ 3) : F.length ≤ fs.length + 300 := by
  have b := h.bound (n := 100) fun g hg => by
    obtain ⟨d, hd, rfl⟩ := List.mem_map.mp hg
    exact (vd d hd).new_le
  rw [List.length_map] at b
  omega
theorem named_len (who : Int) : ∀ (ds : List Ds) (l : List Tag) (i : Nat), VDxs ds → (named who l i ds).length ≤ l.length + 100 * ds.length
  | [], l, i, _ => Nat.le_add_right _ _
  | d :: ds, l, i, v => by
    have h1 := nstep_len who l i d (v d List.mem_cons_self)
    have h2 := named_len who ds (nstep who l i d) (i + 1) fun e he => v e (List.mem_cons_of_mem _ he)
    show (named who (nstep who l i d) (i + 1) ds).length ≤ l.length + 100 * (ds.length + 1)
    omega
def spLaw (K : PySem.W.Frag) : Sp := fun vs H Q _ => ∃ v, vs = [v] ∧ Scr K H v ∧ ∀ H', Q (.bl true) H'
theorem law_body (T : Tx mg) (c__law_names : C8.Cal P w K mg base 3 "_law_names" (spNames K) []) (c__law_row : C8.Cal P w K mg base 4 "_law_row" (spLRow K) []) (c__law_film : C8.Cal P w K mg base 1 "_law_film" spLFilm [])
    (c__law_list : C8.Cal P w K mg base 6 "_law_list" (spLList K) []) (c_clash : C8.Cal P w K mg base 10 "clash" spClash []) (c_joined : C8.Cal P w K mg base 10 "joined" spJoined []) (c__law_named : C8.Cal P w K mg base 1 "_law_named" spLNamed []) :
    ∀ (f : Addr) (cdv : Value) (A : Around) (outer : List Env) (s : Shared) (H : Hp) (vs : List V) (Q : VK) (E : XK), Room 10 (A.deeper (envOfC "law" (defScope s_law) s.heap.objs.size f cdv)) → spLaw K vs H Q E →
      ∃ t, PSs (cxOf CX0 P w K mg base N_law "law" (defScope s_law) f cdv A outer s H E).nox (defBody s_law) t ∧ t { nx := fun _ H' => Q .non H', rt := Q } (start N_law vs) H := by
  intro f cdv A outer s H vs Q E hr h
  · obtain ⟨v, rfl, hS, q⟩ := h
    have nd := sc_law.nd
    refine ⟨_, (pss_cons (ps_set (i := 1) nd rfl (Or.inl rfl) (C8.pe_c c__law_names hr (by decide) (by rfl) (pa_cons (pv 0) (pa_cons pe_int pa_nil))))
      (pss_cons (ps_set (i := 2) nd rfl (Or.inl rfl) (C8.pe_c c__law_row hr (by decide) (by rfl) (pa_cons (pv 0) (pa_cons pe_int (pa_cons pe_int (pa_cons (pv 1) pa_nil))))))
      (pss_cons (ps_set (i := 3) nd rfl (Or.inl rfl) (C8.pe_c c__law_film hr (by decide) (by rfl) (pa_cons (pv 2) pa_nil)))
      (pss_cons (ps_set (i := 4) nd rfl (Or.inl rfl) (C8.pe_c c__law_list hr (by decide) (by rfl) (pa_cons (pv 0) (pa_cons pe_int (pa_cons (pv 3) (pa_cons (pv 1) pa_nil))))))
      (pss_cons (ps_set (i := 5) nd rfl (Or.inl rfl) (C8.pe_c c__law_list hr (by decide) (by rfl) (pa_cons (pv 0) (pa_cons pe_int (pa_cons (pv 3) (pa_cons (pv 1) pa_nil))))))
      (pss_cons (ps_if (pt_cmpR op_notN (C8.pe_c c_clash hr (by decide) (by rfl) (pa_cons (pv 2) (pa_cons (pv 4) (pa_cons (pv 5) pa_nil)))) pe_non (nomark _)) (pss_one (ps_ret pe_bl)) pss_nil)
      (pss_cons (ps_set (i := 6) nd rfl (Or.inl rfl) (pe_ix ix_tup (C8.pe_c c_joined hr (by decide) (by rfl) (pa_cons (pv 2) (pa_cons (pv 4) (pa_cons (pv 5) pa_nil)))) pe_int (fun _ _ => rfl)))
      (pss_cons (ps_if (pt_cmpR op_ne (pe_callB call_len_seq (by rfl) T.b_len bt_len (pa_cons (pv 6) pa_nil)) (pe_callB call_len_seq (by rfl) T.b_len bt_len (pa_cons (pv 5) pa_nil)) (nomark _)) (pss_one (ps_ret pe_bl)) pss_nil)
      (pss_cons (ps_setLc (i := 7) (own := [("_law_k", 11)]) (g := gName 11) rfl nd rfl rfl (sw_true rfl rfl rfl (by decide +kernel)) (pi_range1 (by rfl) T.b_range (pa_cons (pe_callB call_len_seq (by rfl) T.b_len bt_len (pa_cons (pv 3) pa_nil)) pa_nil)) (blkOk_by (N := N_law) (sc := defScope s_law) (by decide +kernel)) (fun _ _ _ _ _ => pg_name (i := 11) nd rfl (Or.inl rfl)) (fun _ _ _ _ _ => pts_nil) (fun _ _ _ _ _ => (pe_tup (pa_cons pe_int (pa_cons pe_int (pa_cons (pv 11) pa_nil))))))
      (pss_cons (ps_set (i := 8) nd rfl (Or.inr rfl) (C8.pe_c c__law_named hr (by decide) (by rfl) (pa_cons (pv 7) (pa_cons (pv 4) (pa_cons pe_int pa_nil)))))
      (pss_cons (ps_set (i := 9) nd rfl (Or.inr rfl) (C8.pe_c c__law_named hr (by decide) (by rfl) (pa_cons (pv 7) (pa_cons (pv 5) (pa_cons pe_int pa_nil)))))
      (pss_cons (ps_set (i := 10) nd rfl (Or.inl rfl) (C8.pe_c c__law_named hr (by decide) (by rfl) (pa_cons (pv 8) (pa_cons (pv 6) (pa_cons pe_int pa_nil)))))
      (C8.pss_cut (ps_if (pt_cmpR (op_neD hr.units) (pe_lc (own := [("_law_one", 12)]) (g := gName 12) rfl nd (pi_list (pv 10)) (blkOk_by (N := N_law) (sc := defScope s_law) (by decide +kernel)) (fun _ _ _ _ _ => pg_name (i := 12) nd rfl (Or.inl rfl)) (fun _ _ _ _ _ => pts_one (pt_cmpR op_eq (pe_ix (r := rIxT K) ix_tup (pv 12) pe_int (fun _ _ => rfl)) pe_int (nomark _))) (fun _ _ _ _ _ => (pv 12))) (pe_lc (own := [("_law_one", 12)]) (g := gName 12) rfl nd (pi_list (pv 7)) (blkOk_by (N := N_law) (sc := defScope s_law) (by decide +kernel)) (fun _ _ _ _ _ => pg_name (i := 12) nd rfl (Or.inl rfl)) (fun _ _ _ _ _ => pts_one (PW.pt (pw_and (pt_cmpR (r := rInD K) (op_inD (hu65 hr)) (pv 12) (pv 8) (by with_unfolding_all rfl)) (pw_and1 (pt_cmpR (r := rInD K) (op_inD (hu65 hr)) (pv 12) (pv 9) (by with_unfolding_all rfl)))))) (fun _ _ _ _ _ => (pv 12))) (nomark _)) (pss_one (ps_ret pe_bl)) pss_nil)
      (C8.pss_cut (ps_if (pt_cmpR (op_neD hr.units) (pe_lc (own := [("_law_one", 12)]) (g := gName 12) rfl nd (pi_list (pv 10)) (blkOk_by (N := N_law) (sc := defScope s_law) (by decide +kernel)) (fun _ _ _ _ _ => pg_name (i := 12) nd rfl (Or.inl rfl)) (fun _ _ _ _ _ => pts_one (pt_cmpR (r := rInD K) (op_inD (hu65 hr)) (pv 12) (pv 8) (by with_unfolding_all rfl))) (fun _ _ _ _ _ => (pv 12))) (pe_lc (own := [("_law_one", 12)]) (g := gName 12) rfl nd (pi_list (pv 8)) (blkOk_by (N := N_law) (sc := defScope s_law) (by decide +kernel)) (fun _ _ _ _ _ => pg_name (i := 12) nd rfl (Or.inl rfl)) (fun _ _ _ _ _ => pts_one (PW.pt (pw_or (pt_cmpR op_eq (pe_ix (r := rIxT K) ix_tup (pv 12) pe_int (fun _ _ => rfl)) pe_int (nomark _)) (pw_or1 (pt_cmpR (r := rInD K) (op_inD (hu65 hr)) (pv 12) (pv 9) (by with_unfolding_all rfl)))))) (fun _ _ _ _ _ => (pv 12))) (nomark _)) (pss_one (ps_ret pe_bl)) pss_nil)
      (C8.pss_cut (ps_if (pt_cmpR (op_neD hr.units) (pe_lc (own := [("_law_one", 12)]) (g := gName 12) rfl nd (pi_list (pv 10)) (blkOk_by (N := N_law) (sc := defScope s_law) (by decide +kernel)) (fun _ _ _ _ _ => pg_name (i := 12) nd rfl (Or.inl rfl)) (fun _ _ _ _ _ => pts_one (pt_cmpR (r := rInD K) (op_inD (hu65 hr)) (pv 12) (pv 9) (by with_unfolding_all rfl))) (fun _ _ _ _ _ => (pv 12))) (pe_lc (own := [("_law_one", 12)]) (g := gName 12) rfl nd (pi_list (pv 9)) (blkOk_by (N := N_law) (sc := defScope s_law) (by decide +kernel)) (fun _ _ _ _ _ => pg_name (i := 12) nd rfl (Or.inl rfl)) (fun _ _ _ _ _ => pts_one (PW.pt (pw_or (pt_cmpR op_eq (pe_ix (r := rIxT K) ix_tup (pv 12) pe_int (fun _ _ => rfl)) pe_int (nomark _)) (pw_or1 (pt_cmpR (r := rInD K) (op_inD (hu65 hr)) (pv 12) (pv 8) (by with_unfolding_all rfl)))))) (fun _ _ _ _ _ => (pv 12))) (nomark _)) (pss_one (ps_ret pe_bl)) pss_nil)
      (pss_one (ps_ret (pe_cmpR op_eq (pe_callB (cr_sum rfl) (by rfl) T.b_sum bt_sum (pa_cons (pe_lc (own := [("_law_piece_here", 13)]) (g := gName 13) rfl nd (pi_tup (pe_ix ix_tup (C8.pe_c c_joined hr (by decide) (by rfl) (pa_cons (pv 2) (pa_cons (pv 4) (pa_cons (pv 5) pa_nil)))) pe_int (fun _ _ => rfl))) (blkOk_by (N := N_law) (sc := defScope s_law) (by decide +kernel)) (fun _ _ _ _ _ => pg_name (i := 13) nd rfl (Or.inl rfl)) (fun _ _ _ _ _ => pts_nil) (fun _ _ _ _ _ => (pe_ix (r := rIxT K) ix_tup (pv 13) pe_int (fun _ _ => rfl)))) pa_nil)) (pe_callB call_len_seq (by rfl) T.b_len bt_len (pa_cons (pv 10) pa_nil)) (nomark _))))))))))))))))))), ?_⟩
    -- names, row, frames
    refine ⟨_, rfl, v, 0, rfl, hS, fun H1 u1 zs s1 n1 lz hz => ?_⟩
    refine ⟨_, rfl, _, rfl, v, u1, 22, 4, zs, rfl, hS.sm s1, by decide, by decide, n1, lz, hz, fun H2 u2 ps s2 r2 vp mp lp => ?_⟩
    have t2 := s1.trans s2
    have l9 := len9 mp
    have vr : VRw ps := ⟨vp, by omega⟩
    refine ⟨_, rfl, u2, ps, rfl, r2, vr, fun H3 u3 s3 f3 => ?_⟩
    have t3 := t2.trans s3
    have lf := film_len ps
    have vf := VPcs.frames vp
    -- ones, others
    refine ⟨_, rfl, _, rfl, _, rfl, v, u3, u1, 100, film ps, zs, rfl, hS.sm t3, f3, vf, by omega, n1.sm (s2.trans s3), lz, hz, fun H4 u4 ones M s4 d4 v4 f4 z4 => ?_⟩
    have t4 := t3.trans s4
    refine ⟨_, rfl, _, rfl, _, rfl, v, u3, u1, 200, film ps, zs, rfl, hS.sm t4, f3.sm s4, vf, by omega, n1.sm ((s2.trans s3).trans s4), lz, hz, fun H5 u5 others Y s5 d5 v5 f5 z5 => ?_⟩
    have t5 := t4.trans s5
    have jin : JIn H5 u2 u4 u5 ps ones others M Y := ⟨r2.sm ((s3.trans s4).trans s5), vr, d4.sm s5, d5, v4, v5, f4, f5, by omega, z4, z5⟩
    -- if clash(..) is not None
    refine ⟨_, rfl, _, rfl, _, rfl, u2, u4, u5, ps, ones, others, M, Y, rfl, jin, fun H6 t s6 e => ⟨rfl, _, rfl, iteB (ndt (by intro z; cases z)) (q _)⟩, fun H6 r s6 hj => ⟨rfl, _, rfl, iteC (ndf rfl) ?_⟩⟩
    obtain ⟨r1, r2'⟩ := r
    obtain ⟨W, fw, vr2, lr2, ask, lw⟩ := whole v4 v5 f4 f5 hj
    have vr2 : VDxs r2' := vr2
    have lr2 : r2'.length = others.length := lr2
    have fw : FitL M (r2'.map Dd.G) W := fw
    -- theirs
    refine ⟨_, rfl, _, rfl, _, rfl, u2, u4, u5, ps, ones, others, r1, r2', M, Y, W, rfl, jin.sm s6, hj, fw, vr2, by omega, fun H7 t w1 w2 w3 R s7 ht d7 r7 lR zR => ?_⟩
    refine ⟨t, _, _, _, rfl, rfl, sqT ht, atI_nat (j := 0) rfl, ?_⟩
    -- if len(theirs) != len(others)
    have u7 := s6.trans s7
    obtain ⟨a7, x7, rfl, h7, g7⟩ := id d7
    obtain ⟨a5, x5, rfl, h5, g5⟩ := d5.sm u7
    refine ⟨_, rfl, a7, x7, rfl, .inl (sqL h7), _, rfl, a5, x5, rfl, .inl (sqL h5), rfl, _, rfl, iteC (ndf (congrArg V.int (by rw [g7.len, g5.len, lr2]))) ?_⟩
    -- base
    obtain ⟨a3, x3, rfl, h3, g3⟩ := f3.sm ((s4.trans s5).trans u7)
    have l3 := g3.len
    refine ⟨_, rfl, a3, x3, rfl, .inl (sqL h3), _, rfl, by omega, by omega, fun Db hDb => ?_⟩
    refine lcw (walk_r0 (n := ((x3.length : Nat) : Int).toNat)) (R := IsTag) mTag (K62.base (film ps).length) (by rw [base_len]; omega) hDb (by omega) (fun _ _ => trivial) (fun j c x H0 H8 hj2 s0 y Q k => ?_) (fun H8 xb s8 h8 g8 => ?_)
    · obtain ⟨rfl, rfl⟩ := y
      have hc : c = ⟨0, 0, (j : Int)⟩ := by
        unfold K62.base at hj2
        rw [List.getElem?_map] at hj2
        obtain ⟨j', ej, rfl⟩ := Option.map_eq_some_iff.mp hj2
        obtain ⟨h1, h2⟩ := List.getElem?_eq_some_iff.mp ej
        rw [List.getElem_range] at h2
        rw [← h2]
      subst hc
      exact ⟨rfl, _, rfl, by show 3 ≤ sizeLine; decide, fun t ht => k _ _ (sm_new ht) ⟨t, rfl, upd_same⟩⟩
    have hB : IsTags H8 (.ref Db) (K62.base (film ps).length) := ⟨Db, xb, rfl, h8, g8⟩
    have lB := base_len (film ps).length
    generalize K62.base (film ps).length = bs at hB lB ask lw
    have u8 := u7.trans s8
    -- mine, yours, whole
    have lm := named_len 1 ones bs 0 v4
    have ly := named_len 2 others bs 0 v5
    refine ⟨_, rfl, _, rfl, .ref Db, u4, 1, bs, ones, rfl, hB, d4.sm (s5.trans u8), v4, by omega, z4, fun H9 u9 s9 hM => ?_⟩
    generalize named 1 bs 0 ones = mine at hM lm ask lw
    refine ⟨_, rfl, _, rfl, .ref Db, .ref a5, 2, bs, others, rfl, hB.sm s9, d5.sm (u8.trans s9), v5, by omega, z5, fun H10 u10 s10 hY => ?_⟩
    generalize named 2 bs 0 others = yours at hY ly ask
    have lw2 := named_len 2 r2' mine 0 vr2
    refine ⟨_, rfl, _, rfl, u9, .ref a7, 2, mine, r2', rfl, hM.sm s10, d7.sm ((s8.trans s9).trans s10), vr2, by omega, by omega, fun H11 u11 s11 hW => ?_⟩
    generalize named 2 mine 0 r2' = whl at hW lw2 ask lw
    have hB11 := hB.sm ((s9.trans s10).trans s11)
    have hM11 := hM.sm (s10.trans s11)
    have hY11 := hY.sm s11
    have u11s := ((u8.trans s9).trans s10).trans s11
    obtain ⟨aw, xw, rfl, hxw, gw⟩ := id hW
    obtain ⟨am, xm, rfl, hxm, gm⟩ := id hM11
    obtain ⟨ay, xy, rfl, hxy, gy⟩ := id hY11
    obtain ⟨ab, xb', eab, hxb, gb⟩ := id hB11
    cases eab
    -- the first two films
    refine ⟨fun σ' H' => σ' = ([some v, some u1, some u2, some (.ref a3), some u4, some (.ref a5), some (.ref a7), some (.ref Db), some (.ref am), some (.ref ay), some (.ref aw), none, none, none] : L2.St) ∧ Same H11 H', ?_, ?_⟩
    · refine ⟨_, rfl, aw, rfl, ⟨xw, sqL hxw⟩, fun D1 hD1 => ?_⟩
      refine lcf hxw gw (fun x => decide (x.w = 0)) hD1 (by omega) (fun _ => rfl) (fun x t H' _ hx => t_w rfl hx) (fun x H' Q qq => ⟨_, rfl, qq⟩) (fun H12 y12 s12 h12 g12 => ?_)
      refine ⟨_, rfl, Db, rfl, ⟨xb', sqL (s12 _ _ hxb)⟩, fun D2 hD2 => ?_⟩
      refine lcf (s12 _ _ hxb) (gb.mono fun _ _ z => z.ts (ts_of s12)) (fun x => decide (x ∈ mine) && decide (x ∈ yours)) hD2 (by omega) (fun _ => rfl) (fun x t H' s' hx => t0_and (t_in rfl rfl hx (hM11.sm (s12.trans s'))) fun _ => t_in rfl rfl hx (hY11.sm (s12.trans s'))) (fun x H' Q qq => ⟨_, rfl, qq⟩) (fun H13 y13 s13 h13 g13 => ?_)
      exact ⟨_, _, IsTags.dp ⟨D1, y12, rfl, s13 _ _ h12, g12.mono fun _ _ z => z.ts (ts_of s13)⟩, IsTags.dp ⟨D2, y13, rfl, h13, g13⟩, tags_sh _, tags_sh _, _, rfl, iteC (by rw [tags_eqv]; exact ndf ask.one) ⟨rfl, s12.trans s13⟩⟩
    rintro σ' H13 ⟨rfl, u13⟩
    -- the second two
    refine ⟨fun σ' H' => σ' = ([some v, some u1, some u2, some (.ref a3), some u4, some (.ref a5), some (.ref a7), some (.ref Db), some (.ref am), some (.ref ay), some (.ref aw), none, none, none] : L2.St) ∧ Same H11 H', ?_, ?_⟩
    · refine ⟨_, rfl, aw, rfl, ⟨xw, sqL (u13 _ _ hxw)⟩, fun D3 hD3 => ?_⟩
      refine lcf (u13 _ _ hxw) (gw.mono fun _ _ z => z.ts (ts_of u13)) (fun x => decide (x ∈ mine)) hD3 (by omega) (fun _ => rfl) (fun x t H' s' hx => t_in rfl rfl hx (hM11.sm (u13.trans s'))) (fun x H' Q qq => ⟨_, rfl, qq⟩) (fun H14 y14 s14 h14 g14 => ?_)
      have u14 := u13.trans s14
      refine ⟨_, rfl, am, rfl, ⟨xm, sqL (u14 _ _ hxm)⟩, fun D4 hD4 => ?_⟩
      refine lcf (u14 _ _ hxm) (gm.mono fun _ _ z => z.ts (ts_of u14)) (fun x => decide (x.w = 1) || decide (x ∈ yours)) hD4 (by omega) (fun _ => rfl) (fun x t H' s' hx => t0_or (t_w rfl hx) fun _ => t_in rfl rfl hx (hY11.sm (u14.trans s'))) (fun x H' Q qq => ⟨_, rfl, qq⟩) (fun H15 y15 s15 h15 g15 => ?_)
      exact ⟨_, _, IsTags.dp ⟨D3, y14, rfl, s15 _ _ h14, g14.mono fun _ _ z => z.ts (ts_of s15)⟩, IsTags.dp ⟨D4, y15, rfl, h15, g15⟩, tags_sh _, tags_sh _, _, rfl, iteC (by rw [tags_eqv]; exact ndf ask.two) ⟨rfl, u14.trans s15⟩⟩
    rintro σ' H15 ⟨rfl, u15⟩
    -- the third two
    refine ⟨fun σ' H' => σ' = ([some v, some u1, some u2, some (.ref a3), some u4, some (.ref a5), some (.ref a7), some (.ref Db), some (.ref am), some (.ref ay), some (.ref aw), none, none, none] : L2.St) ∧ Same H11 H', ?_, ?_⟩
    · refine ⟨_, rfl, aw, rfl, ⟨xw, sqL (u15 _ _ hxw)⟩, fun D5 hD5 => ?_⟩
      refine lcf (u15 _ _ hxw) (gw.mono fun _ _ z => z.ts (ts_of u15)) (fun x => decide (x ∈ yours)) hD5 (by omega) (fun _ => rfl) (fun x t H' s' hx => t_in rfl rfl hx (hY11.sm (u15.trans s'))) (fun x H' Q qq => ⟨_, rfl, qq⟩) (fun H16 y16 s16 h16 g16 => ?_)
      have u16 := u15.trans s16
      refine ⟨_, rfl, ay, rfl, ⟨xy, sqL (u16 _ _ hxy)⟩, fun D6 hD6 => ?_⟩
      refine lcf (u16 _ _ hxy) (gy.mono fun _ _ z => z.ts (ts_of u16)) (fun x => decide (x.w = 2) || decide (x ∈ mine)) hD6 (by omega) (fun _ => rfl) (fun x t H' s' hx => t0_or (t_w rfl hx) fun _ => t_in rfl rfl hx (hM11.sm (u16.trans s'))) (fun x H' Q qq => ⟨_, rfl, qq⟩) (fun H17 y17 s17 h17 g17 => ?_)
      exact ⟨_, _, IsTags.dp ⟨D5, y16, rfl, s17 _ _ h16, g16.mono fun _ _ z => z.ts (ts_of s17)⟩, IsTags.dp ⟨D6, y17, rfl, h17, g17⟩, tags_sh _, tags_sh _, _, rfl, iteC (by rw [tags_eqv]; exact ndf ask.three) ⟨rfl, u16.trans s17⟩⟩
    rintro σ' H17 ⟨rfl, u17⟩
    -- how long the whole is
    refine ⟨_, rfl, _, rfl, _, rfl, u2, u4, .ref a5, ps, ones, others, r1, r2', M, Y, W, rfl, jin.sm (u11s.trans u17), hj, fw, vr2, by omega, fun H18 t18 w1' w2' w3' R' s18 ht18 d18 r18 lR' zR' => ?_⟩
    obtain ⟨aR, xR, rfl, hR1, hR2⟩ := r18
    refine ⟨t18, _, _, _, rfl, rfl, sqT ht18, atI_nat (j := 2) rfl, aR, rfl, ⟨xR, sqT hR1⟩, fun D7 hD7 => ?_⟩
    refine lcw (walk_tup (xs := xR)) (R := fun _ v b => v = V.int b) mEx (R'.map fun p => (p.m : Int)) (by rw [List.length_map, hR2.len]) hD7 (by rw [hR2.len]; omega) (fun H' s' => sqT (s' _ _ hR1)) (fun j c x H0 H19 hj2 s0 y Q k => ?_) (fun H19 zs19 s19 h19 g19 => ?_)
    · obtain ⟨rfl, hx⟩ := y
      obtain ⟨p, ep, ⟨c1, rfl, hc1⟩⟩ := hR2.get hx
      rw [List.getElem?_map, ep] at hj2
      cases hj2
      exact ⟨rfl, _, rfl, c1, _, _, _, rfl, rfl, sqT (s0 _ _ hc1), atI_nat (j := 3) rfl, k _ _ (Same.refl _) rfl⟩
    refine ⟨D7, R'.map fun p => (p.m : Int), rfl, sqL (all2_map (f := V.int) g19 ▸ h19), ?_⟩
    rw [sum_len]
    refine ⟨_, rfl, aw, xw, rfl, .inl (sqL ((u17.trans (s18.trans s19)) _ _ hxw)), rfl, qb (decide_eq_true (congrArg V.int ?_)) (q _)⟩
    rw [gw.len, lR', lw]
end
end K62
/-! K62, the head: what the top leaves, by names; the run. -/
namespace K62
open PySem PySem.Spec PyProof.Rows L2
/-! ### the defs by names -/
def d_is_number : He.DefD := ⟨("is_number", none), "is_number", "is_number", defArgs s_is_number, defBody s_is_number, defScope s_is_number, [], []⟩
def d_is_name : He.DefD := ⟨("is_name", none), "is_name", "is_name", defArgs s_is_name, defBody s_is_name, defScope s_is_name, [], []⟩
def d_is_piece : He.DefD := ⟨("is_piece", none), "is_piece", "is_piece", defArgs s_is_piece, defBody s_is_piece, defScope s_is_piece, [], []⟩
def d_length_of : He.DefD := ⟨("length_of", none), "length_of", "length_of", defArgs s_length_of, defBody s_length_of, defScope s_length_of, [], []⟩
def d_is_row : He.DefD := ⟨("is_row", none), "is_row", "is_row", defArgs s_is_row, defBody s_is_row, defScope s_is_row, [], []⟩
def d_checked : He.DefD := ⟨("checked", none), "checked", "checked", defArgs s_checked, defBody s_checked, defScope s_checked, [], []⟩
def d_frames_of : He.DefD := ⟨("frames_of", none), "frames_of", "frames_of", defArgs s_frames_of, defBody s_frames_of, defScope s_frames_of, [], []⟩
def d_film_of : He.DefD := ⟨("film_of", none), "film_of", "film_of", defArgs s_film_of, defBody s_film_of, defScope s_film_of, [], []⟩
def d_film : He.DefD := ⟨("film", none), "film", "film", defArgs s_film, defBody s_film, defScope s_film, [], []⟩
def d_run_from : He.DefD := ⟨("run_from", none), "run_from", "run_from", defArgs s_run_from, defBody s_run_from, defScope s_run_from, [], []⟩
def d_fewest_of : He.DefD := ⟨("fewest_of", none), "fewest_of", "fewest_of", defArgs s_fewest_of, defBody s_fewest_of, defScope s_fewest_of, [], []⟩
def d_least : He.DefD := ⟨("least", none), "least", "least", defArgs s_least, defBody s_least, defScope s_least, [], []⟩
def d_parted_at : He.DefD := ⟨("parted_at", none), "parted_at", "parted_at", defArgs s_parted_at, defBody s_parted_at, defScope s_parted_at, [], []⟩
def d_need_place : He.DefD := ⟨("need_place", none), "need_place", "need_place", defArgs s_need_place, defBody s_need_place, defScope s_need_place, [], []⟩
def d_short : He.DefD := ⟨("short", none), "short", "short", defArgs s_short, defBody s_short, defScope s_short, [], []⟩
def d_put_in : He.DefD := ⟨("put_in", none), "put_in", "put_in", defArgs s_put_in, defBody s_put_in, defScope s_put_in, [], []⟩
def d_without : He.DefD := ⟨("without", none), "without", "without", defArgs s_without, defBody s_without, defScope s_without, [], []⟩
def d_laid_over : He.DefD := ⟨("laid_over", none), "laid_over", "laid_over", defArgs s_laid_over, defBody s_laid_over, defScope s_laid_over, [], []⟩
def d_is_part : He.DefD := ⟨("is_part", none), "is_part", "is_part", defArgs s_is_part, defBody s_is_part, defScope s_is_part, [], []⟩
def d_is_place : He.DefD := ⟨("is_place", none), "is_place", "is_place", defArgs s_is_place, defBody s_is_place, defScope s_is_place, [], []⟩
def d_is_deed : He.DefD := ⟨("is_deed", none), "is_deed", "is_deed", defArgs s_is_deed, defBody s_is_deed, defScope s_is_deed, [], []⟩
def d_frames_in : He.DefD := ⟨("frames_in", none), "frames_in", "frames_in", defArgs s_frames_in, defBody s_frames_in, defScope s_frames_in, [], []⟩
def d_growth : He.DefD := ⟨("growth", none), "growth", "growth", defArgs s_growth, defBody s_growth, defScope s_growth, [], []⟩
def d_at_place : He.DefD := ⟨("at_place", none), "at_place", "at_place", defArgs s_at_place, defBody s_at_place, defScope s_at_place, [], []⟩
def d_shows : He.DefD := ⟨("shows", none), "shows", "shows", defArgs s_shows, defBody s_shows, defScope s_shows, [], []⟩
def d_done_on : He.DefD := ⟨("done_on", none), "done_on", "done_on", defArgs s_done_on, defBody s_done_on, defScope s_done_on, [], []⟩
def d_mark_ahead : He.DefD := ⟨("mark_ahead", none), "mark_ahead", "mark_ahead", defArgs s_mark_ahead, defBody s_mark_ahead, defScope s_mark_ahead, [], []⟩
def d_need_deeds : He.DefD := ⟨("need_deeds", none), "need_deeds", "need_deeds", defArgs s_need_deeds, defBody s_need_deeds, defScope s_need_deeds, [], []⟩
def d_all_done : He.DefD := ⟨("all_done", none), "all_done", "all_done", defArgs s_all_done, defBody s_all_done, defScope s_all_done, [], []⟩
def d_do_clash : He.DefD := ⟨("do_clash", none), "do_clash", "do_clash", defArgs s_do_clash, defBody s_do_clash, defScope s_do_clash, [], []⟩
def d_past : He.DefD := ⟨("past", none), "past", "past", defArgs s_past, defBody s_past, defScope s_past, [], []⟩
def d_J_init : He.DefD := ⟨("Joiner", some "__init__"), "__init__", "Joiner.__init__", defArgs s_J_init, defBody s_J_init, defScope s_J_init, [], []⟩
def d_J_join : He.DefD := ⟨("Joiner", some "join"), "join", "Joiner.join", defArgs s_J_join, defBody s_J_join, defScope s_J_join, [], []⟩
def d_joiner_of : He.DefD := ⟨("joiner_of", none), "joiner_of", "joiner_of", defArgs s_joiner_of, defBody s_joiner_of, defScope s_joiner_of, [], []⟩
def d_clash : He.DefD := ⟨("clash", none), "clash", "clash", defArgs s_clash, defBody s_clash, defScope s_clash, [], []⟩
def d_joined : He.DefD := ⟨("joined", none), "joined", "joined", defArgs s_joined, defBody s_joined, defScope s_joined, [], []⟩
def d_law_cell : He.DefD := ⟨("_law_cell", none), "_law_cell", "_law_cell", defArgs s_law_cell, defBody s_law_cell, defScope s_law_cell, [], []⟩
def d_law_drawn : He.DefD := ⟨("_law_drawn", none), "_law_drawn", "_law_drawn", defArgs s_law_drawn, defBody s_law_drawn, defScope s_law_drawn, [], []⟩
def d_law_names : He.DefD := ⟨("_law_names", none), "_law_names", "_law_names", defArgs s_law_names, defBody s_law_names, defScope s_law_names, [], []⟩
def d_law_piece : He.DefD := ⟨("_law_piece", none), "_law_piece", "_law_piece", defArgs s_law_piece, defBody s_law_piece, defScope s_law_piece, [], []⟩
def d_law_row : He.DefD := ⟨("_law_row", none), "_law_row", "_law_row", defArgs s_law_row, defBody s_law_row, defScope s_law_row, [], []⟩
def d_law_film : He.DefD := ⟨("_law_film", none), "_law_film", "_law_film", defArgs s_law_film, defBody s_law_film, defScope s_law_film, [], []⟩
def d_law_least : He.DefD := ⟨("_law_least", none), "_law_least", "_law_least", defArgs s_law_least, defBody s_law_least, defScope s_law_least, [], []⟩
def d_law_deed : He.DefD := ⟨("_law_deed", none), "_law_deed", "_law_deed", defArgs s_law_deed, defBody s_law_deed, defScope s_law_deed, [], []⟩
def d_law_acted : He.DefD := ⟨("_law_acted", none), "_law_acted", "_law_acted", defArgs s_law_acted, defBody s_law_acted, defScope s_law_acted, [], []⟩
def d_law_list : He.DefD := ⟨("_law_list", none), "_law_list", "_law_list", defArgs s_law_list, defBody s_law_list, defScope s_law_list, [], []⟩
def d_law_named : He.DefD := ⟨("_law_named", none), "_law_named", "_law_named", defArgs s_law_named, defBody s_law_named, defScope s_law_named, [], []⟩
def d_law : He.DefD := ⟨("law", none), "law", "law", defArgs s_law, defBody s_law, defScope s_law, [], []⟩
def fn : List He.DefD := [d_is_number, d_is_name, d_is_piece, d_length_of, d_is_row, d_checked, d_frames_of, d_film_of, d_film, d_run_from, d_fewest_of, d_least, d_parted_at, d_need_place, d_short, d_put_in, d_without, d_laid_over, d_is_part, d_is_place, d_is_deed, d_frames_in, d_growth, d_at_place, d_shows, d_done_on, d_mark_ahead, d_need_deeds, d_all_done, d_do_clash, d_past, d_J_init, d_J_join, d_joiner_of, d_clash, d_joined, d_law_cell, d_law_drawn, d_law_names, d_law_piece, d_law_row, d_law_film, d_law_least, d_law_deed, d_law_acted, d_law_list, d_law_named, d_law]
def fa : List He.Fa := [.glo "is_number", .glo "is_name", .glo "is_piece", .glo "length_of", .glo "is_row", .glo "checked", .glo "frames_of", .glo "film_of", .glo "film", .glo "run_from", .glo "fewest_of", .glo "least", .glo "parted_at", .glo "need_place", .glo "short", .glo "put_in", .glo "without", .glo "laid_over", .glo "is_part", .glo "is_place", .glo "is_deed", .glo "frames_in", .glo "growth", .glo "at_place", .glo "shows", .glo "done_on", .glo "mark_ahead", .glo "need_deeds", .glo "all_done", .glo "do_clash", .glo "past", .glo "joiner_of", .glo "clash", .glo "joined", .glo "_law_cell", .glo "_law_drawn", .glo "_law_names", .glo "_law_piece", .glo "_law_row", .glo "_law_film", .glo "_law_least", .glo "_law_deed", .glo "_law_acted", .glo "_law_list", .glo "_law_named", .glo "law", .free "len", .free "isinstance", .free "int", .free "bool", .free "str", .free "tuple", .free "list", .free "all", .free "sum", .free "max", .free "min", .free "range", .free "enumerate", .int "MOST_FRAMES" 3000, .int "MOST_NUMBER" 9999, .str "LETTERS" lettersS, .glo "Joiner", .cls "Joiner", .noat "Joiner" "ones", .noat "Joiner" "left", .noat "Joiner" "others", .meth "Joiner" "join", .mkr "Joiner"]
def loose : List Str := (["CutError", "BadRow", "NoPlace", "TooLong", "BadDeed", "NotSo", "Clash", "MOST_FRAMES", "MOST_NUMBER", "LETTERS", "is_number", "is_name", "is_piece", "length_of", "is_row", "checked", "frames_of", "film_of", "film", "run_from", "fewest_of", "least", "parted_at", "need_place", "short", "put_in", "without", "laid_over", "is_part", "is_place"] : List Str) ++ (["is_deed", "frames_in", "growth", "at_place", "shows", "done_on", "mark_ahead", "need_deeds", "all_done", "do_clash", "past", "Joiner", "joiner_of", "clash", "joined", "_law_cell", "_law_drawn", "_law_names", "_law_piece", "_law_row", "_law_film", "_law_least", "_law_deed", "_law_acted", "_law_list", "_law_named"] : List Str)
abbrev RR : PySem.W.OpenRow := PySem.W.OpenLaw.row PySem.Challenge.rw_cutroom_k62_whole_nothing_lost
abbrev hk : PySem.W.Hook := He.hookD 6 fa fn
def ob (s : PySem.W.SharedT) : He.AlD := He.obsDG 6 fa fn (HandSHeadRun.getT s)
theorem ob_eq (s : PySem.W.SharedT) : ob s = hk.obs s.abs := He.obsDG_eq (HandSHeadRun.getT_eq s)
theorem run (w : World) : HandSHeadRun.RunEq RR (PySem.W.view RR.prog [62]) hk ob 4000 loose w := by
  intro os
  kernel_rfl
end K62
/-! K62, the end: all facts, all promises, the theorem. -/
namespace K62
open PySem PySem.Spec PyProof.Rows L2
section
variable {P : Program} {w : World} {K : PySem.W.Frag} {h : Heap} {mg : Str → Option Value}
theorem defOf {n : Str} {st : Stmt} (X : K.In h) (G : h.Ns mainGlobals mg) (cf : (He.Fa.glo n).ok K = true) (F : ∃ fd, FunD K n n (defArgs st) (defBody st) (defScope st) [] [] (He.fAd K (n, none)) fd) : DefF K mg n st := by
  obtain ⟨fd, F⟩ := F
  exact ⟨_, fd, F, He.glo_ok X G cf⟩
theorem txOf (X : K.In h) (G : h.Ns mainGlobals mg) (c : He.SaysD fa fn K) : Tx mg := by
  obtain ⟨t1, h1⟩ := He.int_ok X G (c.fact 59 (f := .int "MOST_FRAMES" 3000) rfl)
  obtain ⟨t2, h2⟩ := He.int_ok X G (c.fact 60 (f := .int "MOST_NUMBER" 9999) rfl)
  obtain ⟨t3, h3⟩ := He.str_ok X G (c.fact 61 (f := .str "LETTERS" lettersS) rfl)
  exact ⟨He.free_ok X G (c.fact 46 (f := .free "len") rfl), He.free_ok X G (c.fact 47 (f := .free "isinstance") rfl), He.free_ok X G (c.fact 48 (f := .free "int") rfl), He.free_ok X G (c.fact 49 (f := .free "bool") rfl), He.free_ok X G (c.fact 50 (f := .free "str") rfl), He.free_ok X G (c.fact 51 (f := .free "tuple") rfl), He.free_ok X G (c.fact 52 (f := .free "list") rfl), He.free_ok X G (c.fact 53 (f := .free "all") rfl), He.free_ok X G (c.fact 54 (f := .free "sum") rfl), He.free_ok X G (c.fact 55 (f := .free "max") rfl), He.free_ok X G (c.fact 56 (f := .free "min") rfl), He.free_ok X G (c.fact 57 (f := .free "range") rfl), He.free_ok X G (c.fact 58 (f := .free "enumerate") rfl), ⟨_, h1, t1, rfl⟩, ⟨_, h2, t2, rfl⟩, ⟨_, h3, t3, rfl⟩⟩
theorem jtxOf (c : He.SaysD fa fn K) : JTx K (He.ga K "Joiner") := ⟨He.cls_ok (c.fact 63 (f := .cls "Joiner") rfl), He.noat_ok (c.fact 64 (f := .noat "Joiner" "ones") rfl), He.noat_ok (c.fact 65 (f := .noat "Joiner" "left") rfl), He.noat_ok (c.fact 66 (f := .noat "Joiner" "others") rfl)⟩
theorem facts {f : Addr} (X : K.In h) (G : h.Ns mainGlobals mg) (hfa : mg ("law" : Str) = some (.ref f)) (c : He.SaysD fa fn K) :
    ∃ fd : FuncData, (∀ (s : Shared) (v : Value), BindsTo s fd ⟨[v], []⟩ [("_law_script", v)]) ∧ ∀ base : Heap, K.In base → base.Ns mainGlobals mg → FnOk P w K mg base CX0 11 f fd ["_law_script"] (spLaw K) := by
  have T : Tx mg := txOf X G c
  have J : JTx K (He.ga K "Joiner") := jtxOf c
  have D_is_number : DefF K mg "is_number" s_is_number := defOf X G (c.fact 0 (f := .glo "is_number") rfl) (c.def_ 0 (d := d_is_number) rfl)
  have D_is_name : DefF K mg "is_name" s_is_name := defOf X G (c.fact 1 (f := .glo "is_name") rfl) (c.def_ 1 (d := d_is_name) rfl)
  have D_is_piece : DefF K mg "is_piece" s_is_piece := defOf X G (c.fact 2 (f := .glo "is_piece") rfl) (c.def_ 2 (d := d_is_piece) rfl)
  have D_length_of : DefF K mg "length_of" s_length_of := defOf X G (c.fact 3 (f := .glo "length_of") rfl) (c.def_ 3 (d := d_length_of) rfl)
  have D_is_row : DefF K mg "is_row" s_is_row := defOf X G (c.fact 4 (f := .glo "is_row") rfl) (c.def_ 4 (d := d_is_row) rfl)
  have D_checked : DefF K mg "checked" s_checked := defOf X G (c.fact 5 (f := .glo "checked") rfl) (c.def_ 5 (d := d_checked) rfl)
  have D_frames_of : DefF K mg "frames_of" s_frames_of := defOf X G (c.fact 6 (f := .glo "frames_of") rfl) (c.def_ 6 (d := d_frames_of) rfl)
  have D_film_of : DefF K mg "film_of" s_film_of := defOf X G (c.fact 7 (f := .glo "film_of") rfl) (c.def_ 7 (d := d_film_of) rfl)
  have D_film : DefF K mg "film" s_film := defOf X G (c.fact 8 (f := .glo "film") rfl) (c.def_ 8 (d := d_film) rfl)
  have D_run_from : DefF K mg "run_from" s_run_from := defOf X G (c.fact 9 (f := .glo "run_from") rfl) (c.def_ 9 (d := d_run_from) rfl)
  have D_fewest_of : DefF K mg "fewest_of" s_fewest_of := defOf X G (c.fact 10 (f := .glo "fewest_of") rfl) (c.def_ 10 (d := d_fewest_of) rfl)
  have D_least : DefF K mg "least" s_least := defOf X G (c.fact 11 (f := .glo "least") rfl) (c.def_ 11 (d := d_least) rfl)
  have D_parted_at : DefF K mg "parted_at" s_parted_at := defOf X G (c.fact 12 (f := .glo "parted_at") rfl) (c.def_ 12 (d := d_parted_at) rfl)
  have D_need_place : DefF K mg "need_place" s_need_place := defOf X G (c.fact 13 (f := .glo "need_place") rfl) (c.def_ 13 (d := d_need_place) rfl)
  have D_short : DefF K mg "short" s_short := defOf X G (c.fact 14 (f := .glo "short") rfl) (c.def_ 14 (d := d_short) rfl)
  have D_put_in : DefF K mg "put_in" s_put_in := defOf X G (c.fact 15 (f := .glo "put_in") rfl) (c.def_ 15 (d := d_put_in) rfl)
  have D_without : DefF K mg "without" s_without := defOf X G (c.fact 16 (f := .glo "without") rfl) (c.def_ 16 (d := d_without) rfl)
  have D_laid_over : DefF K mg "laid_over" s_laid_over := defOf X G (c.fact 17 (f := .glo "laid_over") rfl) (c.def_ 17 (d := d_laid_over) rfl)
  have D_is_part : DefF K mg "is_part" s_is_part := defOf X G (c.fact 18 (f := .glo "is_part") rfl) (c.def_ 18 (d := d_is_part) rfl)
  have D_is_place : DefF K mg "is_place" s_is_place := defOf X G (c.fact 19 (f := .glo "is_place") rfl) (c.def_ 19 (d := d_is_place) rfl)
  have D_is_deed : DefF K mg "is_deed" s_is_deed := defOf X G (c.fact 20 (f := .glo "is_deed") rfl) (c.def_ 20 (d := d_is_deed) rfl)
  have D_frames_in : DefF K mg "frames_in" s_frames_in := defOf X G (c.fact 21 (f := .glo "frames_in") rfl) (c.def_ 21 (d := d_frames_in) rfl)
  have D_growth : DefF K mg "growth" s_growth := defOf X G (c.fact 22 (f := .glo "growth") rfl) (c.def_ 22 (d := d_growth) rfl)
  have D_at_place : DefF K mg "at_place" s_at_place := defOf X G (c.fact 23 (f := .glo "at_place") rfl) (c.def_ 23 (d := d_at_place) rfl)
  have D_shows : DefF K mg "shows" s_shows := defOf X G (c.fact 24 (f := .glo "shows") rfl) (c.def_ 24 (d := d_shows) rfl)
  have D_done_on : DefF K mg "done_on" s_done_on := defOf X G (c.fact 25 (f := .glo "done_on") rfl) (c.def_ 25 (d := d_done_on) rfl)
  have D_mark_ahead : DefF K mg "mark_ahead" s_mark_ahead := defOf X G (c.fact 26 (f := .glo "mark_ahead") rfl) (c.def_ 26 (d := d_mark_ahead) rfl)
  have D_need_deeds : DefF K mg "need_deeds" s_need_deeds := defOf X G (c.fact 27 (f := .glo "need_deeds") rfl) (c.def_ 27 (d := d_need_deeds) rfl)
  have D_all_done : DefF K mg "all_done" s_all_done := defOf X G (c.fact 28 (f := .glo "all_done") rfl) (c.def_ 28 (d := d_all_done) rfl)
  have D_do_clash : DefF K mg "do_clash" s_do_clash := defOf X G (c.fact 29 (f := .glo "do_clash") rfl) (c.def_ 29 (d := d_do_clash) rfl)
  have D_past : DefF K mg "past" s_past := defOf X G (c.fact 30 (f := .glo "past") rfl) (c.def_ 30 (d := d_past) rfl)
  have D_joiner_of : DefF K mg "joiner_of" s_joiner_of := defOf X G (c.fact 31 (f := .glo "joiner_of") rfl) (c.def_ 33 (d := d_joiner_of) rfl)
  have D_clash : DefF K mg "clash" s_clash := defOf X G (c.fact 32 (f := .glo "clash") rfl) (c.def_ 34 (d := d_clash) rfl)
  have D_joined : DefF K mg "joined" s_joined := defOf X G (c.fact 33 (f := .glo "joined") rfl) (c.def_ 35 (d := d_joined) rfl)
  have D__law_cell : DefF K mg "_law_cell" s_law_cell := defOf X G (c.fact 34 (f := .glo "_law_cell") rfl) (c.def_ 36 (d := d_law_cell) rfl)
  have D__law_drawn : DefF K mg "_law_drawn" s_law_drawn := defOf X G (c.fact 35 (f := .glo "_law_drawn") rfl) (c.def_ 37 (d := d_law_drawn) rfl)
  have D__law_names : DefF K mg "_law_names" s_law_names := defOf X G (c.fact 36 (f := .glo "_law_names") rfl) (c.def_ 38 (d := d_law_names) rfl)
  have D__law_piece : DefF K mg "_law_piece" s_law_piece := defOf X G (c.fact 37 (f := .glo "_law_piece") rfl) (c.def_ 39 (d := d_law_piece) rfl)
  have D__law_row : DefF K mg "_law_row" s_law_row := defOf X G (c.fact 38 (f := .glo "_law_row") rfl) (c.def_ 40 (d := d_law_row) rfl)
  have D__law_film : DefF K mg "_law_film" s_law_film := defOf X G (c.fact 39 (f := .glo "_law_film") rfl) (c.def_ 41 (d := d_law_film) rfl)
  have D__law_least : DefF K mg "_law_least" s_law_least := defOf X G (c.fact 40 (f := .glo "_law_least") rfl) (c.def_ 42 (d := d_law_least) rfl)
  have D__law_deed : DefF K mg "_law_deed" s_law_deed := defOf X G (c.fact 41 (f := .glo "_law_deed") rfl) (c.def_ 43 (d := d_law_deed) rfl)
  have D__law_acted : DefF K mg "_law_acted" s_law_acted := defOf X G (c.fact 42 (f := .glo "_law_acted") rfl) (c.def_ 44 (d := d_law_acted) rfl)
  have D__law_list : DefF K mg "_law_list" s_law_list := defOf X G (c.fact 43 (f := .glo "_law_list") rfl) (c.def_ 45 (d := d_law_list) rfl)
  have D__law_named : DefF K mg "_law_named" s_law_named := defOf X G (c.fact 44 (f := .glo "_law_named") rfl) (c.def_ 46 (d := d_law_named) rfl)
  obtain ⟨fd, F⟩ := c.def_ 47 (d := d_law) rfl
  have e := hfa.symm.trans (He.glo_ok X G (c.fact 45 (f := .glo "law") rfl))
  cases e
  have b := FunD.bindsA (ps := ["_law_script"]) F fun _ _ _ _ _ _ us hl => match us, hl with | [_], _ => rfl
  refine ⟨fd, fun s v => b s [v] rfl, fun base _ _ => ?_⟩
  have c_is_number : C8.Cal P w K mg base 1 "is_number" spIsNumber [] := ok_is_number D_is_number T
  have c_is_name : C8.Cal P w K mg base 1 "is_name" spIsName [] := ok_is_name D_is_name T
  have c_is_piece : C8.Cal P w K mg base 2 "is_piece" spIsPiece [] := ok_is_piece D_is_piece T c_is_number c_is_name
  have c_length_of : C8.Cal P w K mg base 1 "length_of" spLengthOf [] := ok_length_of D_length_of T
  have c_is_row : C8.Cal P w K mg base 3 "is_row" spIsRow [] := ok_is_row D_is_row T c_is_piece c_length_of
  have c_checked : C8.Cal P w K mg base 4 "checked" spChecked [] := ok_checked D_checked c_is_row
  have c_frames_of : C8.Cal P w K mg base 1 "frames_of" spFramesOf [] := ok_frames_of D_frames_of T
  have c_film_of : C8.Cal P w K mg base 2 "film_of" spFilmOf [] := ok_film_of D_film_of c_frames_of
  have c_film : C8.Cal P w K mg base 5 "film" spFilm [] := ok_film D_film c_film_of c_checked
  have c_run_from : C8.Cal P w K mg base 1 "run_from" spRunFrom [] := ok_run_from D_run_from T
  have c_fewest_of : C8.Cal P w K mg base 2 "fewest_of" spFewestOf [] := ok_fewest_of D_fewest_of T c_run_from
  have c_least : C8.Cal P w K mg base 6 "least" spLeast [] := ok_least D_least c_fewest_of c_film
  have c_parted_at : C8.Cal P w K mg base 1 "parted_at" spPartedAt [] := ok_parted_at D_parted_at T
  have c_need_place : C8.Cal P w K mg base 2 "need_place" spNeedPlace [] := ok_need_place D_need_place c_is_number c_length_of
  have c_short : C8.Cal P w K mg base 2 "short" spShort [] := ok_short D_short T c_length_of
  have c_put_in : C8.Cal P w K mg base 5 "put_in" spPutIn [] := ok_put_in D_put_in c_checked c_need_place c_parted_at c_short
  have c_without : C8.Cal P w K mg base 2 "without" spWithout [] := ok_without D_without c_parted_at
  have c_laid_over : C8.Cal P w K mg base 5 "laid_over" spLaidOver [] := ok_laid_over D_laid_over c_checked c_need_place c_parted_at c_short c_length_of
  have c_is_part : C8.Cal P w K mg base 4 "is_part" spIsPart [] := ok_is_part D_is_part c_is_row c_film_of c_fewest_of
  have c_is_place : C8.Cal P w K mg base 1 "is_place" spIsPlace [] := ok_is_place D_is_place T
  have c_is_deed : C8.Cal P w K mg base 5 "is_deed" spIsDeed [] := ok_is_deed D_is_deed T c_is_place c_is_part c_length_of
  have c_frames_in : C8.Cal P w K mg base 2 "frames_in" spFramesIn [] := ok_frames_in D_frames_in c_length_of
  have c_growth : C8.Cal P w K mg base 3 "growth" spGrowth [] := ok_growth D_growth c_frames_in
  have c_at_place : C8.Cal P w K mg base 1 "at_place" spAtPlace [] := ok_at_place D_at_place
  have c_shows : C8.Cal P w K mg base 3 "shows" spShows [] := ok_shows D_shows T c_film_of
  have c_mark_ahead : C8.Cal P w K mg base 3 "mark_ahead" spMarkAhead [] := ok_mark_ahead D_mark_ahead c_frames_in
  have c_done_on : C8.Cal P w K mg base 7 "done_on" spDoneOn [] := ok_done_on D_done_on c_length_of c_least c_put_in c_shows c_without c_frames_in c_laid_over
  have c_need_deeds : C8.Cal P w K mg base 6 "need_deeds" spNeedDeeds [] := ok_need_deeds D_need_deeds T c_is_deed
  have c_all_done : C8.Cal P w K mg base 8 "all_done" spAllDone [] := ok_all_done D_all_done c_done_on
  have c_do_clash : C8.Cal P w K mg base 4 "do_clash" spDoClash [] := ok_do_clash D_do_clash c_mark_ahead
  have c_past : C8.Cal P w K mg base 4 "past" spPast [] := ok_past D_past c_mark_ahead c_at_place c_growth
  have c_Joiner : C8.Mak P w K mg base 1 "Joiner" (He.ga K "Joiner") (spJInit (He.ga K "Joiner")) [] := by
    obtain ⟨fi, Fi⟩ := c.def_ 31 (d := d_J_init) rfl
    obtain ⟨fi2, Fi2, bi2⟩ := ok_j_init (P := P) (w := w) (base := base) (mg := mg) (f := He.fAd K ("Joiner", some "__init__")) ⟨fi, Fi⟩ T J
    exact ⟨_, fi2, _, [], He.mkr_ok (c.fact 68 (f := .mkr "Joiner") rfl), Fi2, He.glo_ok X G (c.fact 62 (f := .glo "Joiner") rfl), bi2, .nil⟩
  have c_join : C8.Met P w K mg base 5 (He.ga K "Joiner") "join" (spJJoin (He.ga K "Joiner")) [] := by
    obtain ⟨fi, Fi⟩ := c.def_ 32 (d := d_J_join) rfl
    obtain ⟨fi2, Fi2, bi2⟩ := ok_j_join (P := P) (w := w) (base := base) (mg := mg) (f := He.fAd K ("Joiner", some "join")) ⟨fi, Fi⟩ T J c_do_clash c_past
    exact ⟨_, fi2, _, [], J.cl, He.meth_ok (c.fact 67 (f := .meth "Joiner" "join") rfl), Fi2, bi2, .nil⟩
  have c_joiner_of : C8.Cal P w K mg base 9 "joiner_of" (spJoinerOf (He.ga K "Joiner")) [] := ok_joiner_of D_joiner_of c_checked c_need_deeds c_all_done c_Joiner
  have c_clash : C8.Cal P w K mg base 10 "clash" spClash [] := ok_clash D_clash c_joiner_of c_join
  have c_joined : C8.Cal P w K mg base 10 "joined" spJoined [] := ok_joined D_joined J c_joiner_of c_join c_all_done c_least
  have c__law_cell : C8.Cal P w K mg base 1 "_law_cell" (spCell K) [] := ok_cell D__law_cell T
  have c__law_drawn : C8.Cal P w K mg base 2 "_law_drawn" (spDrawn K) [] := ok_drawn D__law_drawn c__law_cell
  have c__law_names : C8.Cal P w K mg base 3 "_law_names" (spNames K) [] := ok_names D__law_names T c__law_drawn
  have c__law_piece : C8.Cal P w K mg base 3 "_law_piece" (spLPiece K) [] := ok_lpiece D__law_piece T c__law_drawn
  have c__law_row : C8.Cal P w K mg base 4 "_law_row" (spLRow K) [] := ok_lrow D__law_row T c__law_drawn c__law_piece
  have c__law_film : C8.Cal P w K mg base 1 "_law_film" spLFilm [] := ok_lfilm D__law_film T
  have c__law_least : C8.Cal P w K mg base 1 "_law_least" spLLeast [] := ok_lleast D__law_least T
  have c__law_deed : C8.Cal P w K mg base 5 "_law_deed" (spLDeed K) [] := ok_ldeed D__law_deed T c__law_drawn c__law_row c__law_film c__law_least
  have c__law_acted : C8.Cal P w K mg base 2 "_law_acted" spLActed [] := ok_lacted D__law_acted T c__law_film
  have c__law_list : C8.Cal P w K mg base 6 "_law_list" (spLList K) [] := ok_llist D__law_list T c__law_drawn c__law_deed c__law_acted
  have c__law_named : C8.Cal P w K mg base 1 "_law_named" spLNamed [] := ok_lnamed D__law_named T
  refine F.ok sc_law (fun vs H Q E h => ?_) (fun cdv A outer s H vs Q E hr h => ?_)
  · obtain ⟨_, rfl, _⟩ := h
    rfl
  · obtain ⟨t, h1, h2⟩ := law_body T c__law_names c__law_row c__law_film c__law_list c_clash c_joined c__law_named (He.fAd K ("law", none)) cdv A outer s H vs Q E hr h
    exact ⟨t, h1.nox, h2⟩
end
end K62
open PySem PySem.W PySem.Calls PyProof.Rows
theorem PySem.Challenge.cw_cutroom_k62_whole_nothing_lost_holds : PySem.Challenge.rw_cutroom_k62_whole_nothing_lost.Holds := by
  w_on; o_law
  refine HandSHeadRun.head_any (r := OpenLaw.row PySem.Challenge.rw_cutroom_k62_whole_nothing_lost) (q := view (OpenLaw.row PySem.Challenge.rw_cutroom_k62_whole_nothing_lost).prog [62]) (H := K62.hk) (ob := K62.ob) (M := 4000) (loose := K62.loose) (d := HandSHeadRun.topDef (OpenLaw.row PySem.Challenge.rw_cutroom_k62_whole_nothing_lost).prog 62) (kwd := []) K62.ob_eq
    (by kernel_rfl) (fun s => by kernel_rfl) K62.run (by kernel_rfl) (by kernel_rfl) (by kernel_rfl) (by rfl) (by first | assumption | decide +kernel) (by decide +kernel) ⟨rfl, rfl, rfl, rfl, rfl, by decide +kernel⟩ ?hw ?hc
  case hw => w_witness2
  case hc =>
    refine L2.walk_ofE (l := PySem.Challenge.rw_cutroom_k62_whole_nothing_lost) (n := 63) (k := 11) (x := "_law_script") (CX := L2.CX0) rfl (by decide) (by kernel_rfl) ⟨rfl, by decide, by decide⟩ ?F (fun _ _ _ _ z => z)
    intro w mg fa h Y G hmg0
    obtain ⟨K, KX, c⟩ := Y
    have hmg : mg ("law" : PySem.Str) = some (.ref fa) := by
      have e : (HandSHeadRun.topDef (OpenLaw.row PySem.Challenge.rw_cutroom_k62_whole_nothing_lost).prog 62).name = ("law" : PySem.Str) := by kernel_rfl
      rw [← e]
      exact hmg0
    obtain ⟨fd, hb, hF⟩ := K62.facts (P := (PySem.Challenge.rw_cutroom_k62_whole_nothing_lost).prog) (w := w) KX G hmg c
    exact ⟨K, fd, K62.spLaw K, KX, hb, fun H a ns hl _ hS => ⟨.ref a, rfl, ⟨a, ns, rfl, hS, hl⟩, fun _ => rfl⟩, hF⟩
#print axioms PySem.Challenge.cw_cutroom_k62_whole_nothing_lost_holds
