import PyProof.Rows.All
import Wide.All
import OpenK.AllK
import Wide.FinOn
import HandS.ForMost
import HandS.IsInst
import HandS.RevRange
import HandS.ReplaceLit
import HandS.ReplaceList
import PySem.Challenge.RW_manymakes_k72_joined_alike
set_option Elab.async false
set_option linter.all false
set_option maxRecDepth 100000
set_option maxHeartbeats 4000000
/-! MMa: data without a heap (D), a small memory of the things that change (Mem), and how both stand in the layer's abstract heap. -/
namespace MM
open PySem PySem.Spec PyProof.Rows L2

inductive D where
  | non | bl (b : Bool) | int (i : Int) | str (x : Str) | tup (l : List D) | lst (l : List D) | scr (l : List D) | ptr (k : Nat)
noncomputable instance : DecidableEq D := fun a b => Classical.propDecidable (a = b)
instance : Inhabited D := ⟨.non⟩

section
variable (K : PySem.W.Frag) (Fz : Hp) (ι : Nat → Addr)
mutual
def RepV : D → V → Prop
  | .non, v => v = .non
  | .bl b, v => v = .bl b
  | .int i, v => v = .int i
  | .str x, v => v = .str x
  | .tup l, v => ∃ a vs, v = .ref a ∧ SqT K Fz a vs ∧ RepL l vs
  | .lst l, v => ∃ a vs, v = .ref a ∧ Fz a = some (.lst vs) ∧ RepL l vs
  | .scr l, v => ∃ a vs, v = .ref a ∧ SqL K Fz a vs ∧ RepL l vs
  | .ptr k, v => v = .ref (ι k)
def RepL : List D → List V → Prop
  | [], vs => vs = []
  | d :: l, vs => ∃ v r, vs = v :: r ∧ RepV d v ∧ RepL l r
end
/-- pairs: a key and its value -/
def RepP {κ : Type} : List (κ × D) → List (κ × V) → Prop
  | [], vs => vs = []
  | (k, d) :: l, vs => ∃ v r, vs = (k, v) :: r ∧ RepV K Fz ι d v ∧ RepP l r
end
mutual
def bnd (n : Nat) : D → Prop
  | .tup l => bndL n l
  | .lst l => bndL n l
  | .scr l => bndL n l
  | .ptr k => k < n
  | _ => True
def bndL (n : Nat) : List D → Prop
  | [] => True
  | d :: l => bnd n d ∧ bndL n l
end
def bndP {κ : Type} (n : Nat) (l : List (κ × D)) : Prop := bndL n (l.map (·.2))

/-- what changes -/
inductive MO where
  | lst (l : List D)
  | dK (l : List (Key × D))
  | dT (l : List (List Key × D))
  | ins (C : Addr) (fs : List (Str × D))
  | gone
noncomputable instance : DecidableEq MO := fun a b => Classical.propDecidable (a = b)
abbrev Mem := List MO
def MO.bnd (n : Nat) : MO → Prop
  | .lst l => bndL n l
  | .dK l => bndP n l
  | .dT l => bndP n l
  | .ins _ fs => bndP n fs
  | .gone => True
/-- how a changing thing stands in the heap -/
def ObM (K : PySem.W.Frag) (Fz H : Hp) (ι : Nat → Addr) (a : Addr) : MO → Prop
  | .lst l => Fz a = none ∧ ∃ vs, H a = some (.lst vs) ∧ RepL K Fz ι l vs
  | .dK l => Fz a = none ∧ ∃ vs, H a = some (.dK vs) ∧ RepP K Fz ι l vs
  | .dT l => Fz a = none ∧ ∃ vs, H a = some (.dT vs) ∧ RepP K Fz ι l vs
  | .ins C l => Fz a = none ∧ ∃ dx vs, H a = some (.ins C dx vs) ∧ RepP K Fz ι l vs
  | .gone => True
structure Rel (K : PySem.W.Frag) (Fz H : Hp) (ι : Nat → Addr) (M : Mem) : Prop where
  fz : ∀ a o, Fz a = some o → H a = some o
  ob : ∀ (k : Nat) (mo : MO), M[k]? = some mo → ObM K Fz H ι (ι k) mo
  wf : ∀ (k : Nat) (mo : MO), M[k]? = some mo → mo.bnd M.length
  occ : ∀ k, k < M.length → H (ι k) ≠ none
  inj : ∀ i j, i < M.length → j < M.length → ι i = ι j → i = j
/-- from one state to a later one -/
structure Grow (Fz H : Hp) (ι : Nat → Addr) (n : Nat) (Fz' H' : Hp) (ι' : Nat → Addr) (n' : Nat) : Prop where
  fz : ∀ a o, Fz a = some o → Fz' a = some o
  io : ∀ k, k < n → ι' k = ι k
  le : n ≤ n'
  new : ∀ k, n ≤ k → k < n' → H (ι' k) = none
  fr : ∀ a o, H a = some o → (∀ k, k < n → ι k ≠ a) → H' a = some o
  th : ∀ a, H a ≠ none → H' a ≠ none
  fn : ∀ a, Fz' a ≠ none → Fz a ≠ none ∨ H a = none ∨ ∃ k, k < n ∧ ι k = a

theorem Grow.refl (Fz H : Hp) (ι : Nat → Addr) (n : Nat) : Grow Fz H ι n Fz H ι n :=
  ⟨fun _ _ h => h, fun _ _ => rfl, Nat.le_refl _, fun k h1 h2 => absurd h2 (by omega), fun _ _ h _ => h, fun _ h => h, fun _ h => .inl h⟩
theorem Grow.trans {F0 H0 : Hp} {i0 : Nat → Addr} {n0 : Nat} {F1 H1 : Hp} {i1 : Nat → Addr} {n1 : Nat} {F2 H2 : Hp} {i2 : Nat → Addr} {n2 : Nat}
    (a : Grow F0 H0 i0 n0 F1 H1 i1 n1) (b : Grow F1 H1 i1 n1 F2 H2 i2 n2) : Grow F0 H0 i0 n0 F2 H2 i2 n2 where
  fz := fun x o h => b.fz x o (a.fz x o h)
  io := fun k h => (b.io k (Nat.lt_of_lt_of_le h a.le)).trans (a.io k h)
  le := Nat.le_trans a.le b.le
  new := fun k h1 h2 => by
    by_cases h : k < n1
    · rw [b.io k h]; exact a.new k h1 h
    · have q := b.new k (Nat.le_of_not_lt h) h2
      cases e : H0 (i2 k) with
      | none => rfl
      | some o => exact absurd q (a.th _ (by rw [e]; exact fun z => by cases z))
  fr := fun x o h hk => by
    refine b.fr x o (a.fr x o h hk) fun k hk1 e => ?_
    by_cases hn : k < n0
    · exact hk k hn ((a.io k hn).symm.trans e)
    · have q := a.new k (Nat.le_of_not_lt hn) hk1
      rw [e, h] at q; cases q
  th := fun x h => b.th x (a.th x h)
  fn := fun x h => by
    rcases b.fn x h with q | q | ⟨k, hk, e⟩
    · exact a.fn x q
    · refine .inr (.inl ?_)
      cases e : H0 x with
      | none => rfl
      | some o => exact absurd q (a.th _ (by rw [e]; exact fun z => by cases z))
    · by_cases hn : k < n0
      · exact .inr (.inr ⟨k, hn, (a.io k hn).symm.trans e⟩)
      · exact .inr (.inl (by rw [← e]; exact a.new k (Nat.le_of_not_lt hn) hk))

section
variable {K : PySem.W.Frag} {Fz Fz' H H' : Hp} {ι ι' : Nat → Addr} {n n' : Nat}
theorem Rd.up {a : Addr} {u : HO} (h : ∀ a o, Fz a = some o → Fz' a = some o) (r : Rd Fz a u) : Rd Fz' a u := by
  rcases r with r | ⟨o, r⟩
  · exact .inl (h _ _ r)
  · exact .inr ⟨o, h _ _ r⟩
theorem SqT.up {a : Addr} {vs : List V} (h : ∀ a o, Fz a = some o → Fz' a = some o) (r : SqT K Fz a vs) : SqT K Fz' a vs := by
  rcases r with r | r
  · exact .inl (Rd.up h r)
  · exact .inr r
theorem SqL.up {a : Addr} {vs : List V} (h : ∀ a o, Fz a = some o → Fz' a = some o) (r : SqL K Fz a vs) : SqL K Fz' a vs := by
  rcases r with r | r
  · exact .inl (Rd.up h r)
  · exact .inr r
mutual
theorem RepV.up (h : ∀ a o, Fz a = some o → Fz' a = some o) (hi : ∀ k, k < n → ι' k = ι k) : ∀ (d : D) (v : V), bnd n d → RepV K Fz ι d v → RepV K Fz' ι' d v
  | .non, _, _, r => r
  | .bl _, _, _, r => r
  | .int _, _, _, r => r
  | .str _, _, _, r => r
  | .tup l, _, b, r => by
    obtain ⟨a, vs, e, s, q⟩ := r
    exact ⟨a, vs, e, SqT.up h s, RepL.up h hi l vs b q⟩
  | .lst l, _, b, r => by
    obtain ⟨a, vs, e, s, q⟩ := r
    exact ⟨a, vs, e, h _ _ s, RepL.up h hi l vs b q⟩
  | .scr l, _, b, r => by
    obtain ⟨a, vs, e, s, q⟩ := r
    exact ⟨a, vs, e, SqL.up h s, RepL.up h hi l vs b q⟩
  | .ptr k, _, b, r => by
    show _ = V.ref (ι' k)
    rw [hi k b]
    exact r
theorem RepL.up (h : ∀ a o, Fz a = some o → Fz' a = some o) (hi : ∀ k, k < n → ι' k = ι k) : ∀ (l : List D) (vs : List V), bndL n l → RepL K Fz ι l vs → RepL K Fz' ι' l vs
  | [], _, _, r => r
  | d :: l, _, b, r => by
    obtain ⟨v, r', e, q, q'⟩ := r
    exact ⟨v, r', e, RepV.up h hi d v b.1 q, RepL.up h hi l r' b.2 q'⟩
end
theorem RepP.up {κ : Type} (h : ∀ a o, Fz a = some o → Fz' a = some o) (hi : ∀ k, k < n → ι' k = ι k) : ∀ (l : List (κ × D)) (vs : List (κ × V)), bndP n l → RepP K Fz ι l vs → RepP K Fz' ι' l vs
  | [], _, _, r => r
  | (k, d) :: l, _, b, r => by
    obtain ⟨v, r', e, q, q'⟩ := r
    exact ⟨v, r', e, RepV.up h hi d v b.1 q, RepP.up h hi l r' b.2 q'⟩
mutual
theorem bnd.up (h : n ≤ n') : ∀ d : D, bnd n d → bnd n' d
  | .non, _ => trivial
  | .bl _, _ => trivial
  | .int _, _ => trivial
  | .str _, _ => trivial
  | .tup l, b => bndL.up h l b
  | .lst l, b => bndL.up h l b
  | .scr l, b => bndL.up h l b
  | .ptr _, b => Nat.lt_of_lt_of_le b h
theorem bndL.up (h : n ≤ n') : ∀ l : List D, bndL n l → bndL n' l
  | [], _ => trivial
  | d :: l, b => ⟨bnd.up h d b.1, bndL.up h l b.2⟩
end
theorem MO.bnd.up (h : n ≤ n') : ∀ m : MO, m.bnd n → m.bnd n'
  | .lst l, b => bndL.up h l b
  | .dK l, b => bndL.up h _ b
  | .dT l, b => bndL.up h _ b
  | .ins _ l, b => bndL.up h _ b
  | .gone, _ => trivial
theorem bndL_get : ∀ {l : List D} {i : Nat} {d : D}, bndL n l → l[i]? = some d → bnd n d
  | [], _, _, _, e => by simp at e
  | d :: l, 0, _, b, e => by
    have e : d = _ := Option.some.inj e
    exact e ▸ b.1
  | d :: l, i + 1, _, b, e => bndL_get b.2 (by simpa using e)
theorem bndL_iff {l : List D} : bndL n l ↔ ∀ d ∈ l, bnd n d := by
  induction l with
  | nil => exact ⟨fun _ d h => absurd h (by simp), fun _ => trivial⟩
  | cons d l ih =>
    refine ⟨fun h e he => ?_, fun h => ⟨h d (by simp), ih.mpr fun e he => h e (by simp [he])⟩⟩
    rcases List.mem_cons.mp he with rfl | he
    · exact h.1
    · exact ih.mp h.2 e he
theorem bndL_append {l m : List D} : bndL n (l ++ m) ↔ bndL n l ∧ bndL n m := by
  simp only [bndL_iff, List.mem_append]
  exact ⟨fun h => ⟨fun d hd => h d (.inl hd), fun d hd => h d (.inr hd)⟩, fun h d hd => hd.elim (h.1 d) (h.2 d)⟩
theorem bndL_set {l : List D} {i : Nat} {d : D} (b : bndL n l) (h : bnd n d) : bndL n (l.set i d) := by
  rw [bndL_iff] at b ⊢
  intro e he
  rcases List.mem_or_eq_of_mem_set he with q | q
  · exact b e q
  · exact q ▸ h
theorem RepL.len : ∀ {l : List D} {vs : List V}, RepL K Fz ι l vs → l.length = vs.length
  | [], _, r => by
    have r : _ = [] := r
    subst r
    rfl
  | d :: l, _, r => by
    obtain ⟨v, r', e, _, q⟩ := r
    rw [e, List.length_cons, List.length_cons, RepL.len q]
theorem RepL.get : ∀ {l : List D} {vs : List V} {i : Nat} {d : D}, RepL K Fz ι l vs → l[i]? = some d → ∃ v, vs[i]? = some v ∧ RepV K Fz ι d v
  | [], _, _, _, _, e => by simp at e
  | d :: l, _, 0, _, r, e => by
    obtain ⟨v, r', e', q, _⟩ := r
    have e : d = _ := Option.some.inj e
    subst e e'
    exact ⟨v, rfl, q⟩
  | d :: l, _, i + 1, _, r, e => by
    obtain ⟨v, r', e', _, q⟩ := r
    subst e'
    exact RepL.get (i := i) q (by simpa using e)
theorem RepL.append : ∀ {l m : List D} {vs ws : List V}, RepL K Fz ι l vs → RepL K Fz ι m ws → RepL K Fz ι (l ++ m) (vs ++ ws)
  | [], _, _, _, r, s => by
    have r : _ = [] := r
    rw [r]
    exact s
  | d :: l, _, _, _, r, s => by
    obtain ⟨v, r', e', q, q'⟩ := r
    subst e'
    exact ⟨v, _, rfl, q, RepL.append q' s⟩
theorem RepL.set : ∀ {l : List D} {vs : List V} {d : D} {v : V} (i : Nat), RepL K Fz ι l vs → RepV K Fz ι d v → RepL K Fz ι (l.set i d) (vs.set i v)
  | [], _, _, _, _, r, _ => by
    have r : _ = [] := r
    rw [r]
    rfl
  | d :: l, _, _, _, 0, r, s => by
    obtain ⟨v, r', e', q, q'⟩ := r
    subst e'
    exact ⟨_, _, rfl, s, q'⟩
  | d :: l, _, _, _, i + 1, r, s => by
    obtain ⟨v, r', e', q, q'⟩ := r
    subst e'
    exact ⟨_, _, rfl, q, RepL.set i q' s⟩
theorem RepL.take : ∀ {l : List D} {vs : List V} (i : Nat), RepL K Fz ι l vs → RepL K Fz ι (l.take i) (vs.take i)
  | _, _, 0, _ => rfl
  | [], _, i + 1, r => by
    have r : _ = [] := r
    rw [r]
    rfl
  | d :: l, _, i + 1, r => by
    obtain ⟨v, r', e', q, q'⟩ := r
    subst e'
    exact ⟨_, _, rfl, q, RepL.take i q'⟩
theorem RepL.drop : ∀ {l : List D} {vs : List V} (i : Nat), RepL K Fz ι l vs → RepL K Fz ι (l.drop i) (vs.drop i)
  | _, _, 0, r => r
  | [], _, i + 1, r => by
    have r : _ = [] := r
    rw [r]
    rfl
  | d :: l, _, i + 1, r => by
    obtain ⟨v, r', e', q, q'⟩ := r
    subst e'
    exact RepL.drop i q'
theorem RepL.reverse : ∀ {l : List D} {vs : List V}, RepL K Fz ι l vs → RepL K Fz ι l.reverse vs.reverse
  | [], _, r => by
    have r : _ = [] := r
    rw [r]
    rfl
  | d :: l, _, r => by
    obtain ⟨v, r', e', q, q'⟩ := r
    subst e'
    rw [List.reverse_cons, List.reverse_cons]
    exact RepL.append (RepL.reverse q') ⟨v, [], rfl, q, rfl⟩
theorem RepL.strs : ∀ {l : List Str} {vs : List V}, RepL K Fz ι (l.map D.str) vs → vs = l.map V.str
  | [], _, r => r
  | x :: l, _, r => by
    obtain ⟨v, r', e', q, q'⟩ := r
    have q : v = .str x := q
    subst e' q
    rw [RepL.strs (l := l) q']
    rfl
theorem RepL.of_strs (K : PySem.W.Frag) (Fz : Hp) (ι : Nat → Addr) : ∀ l : List Str, RepL K Fz ι (l.map D.str) (l.map V.str)
  | [] => rfl
  | x :: l => ⟨_, _, rfl, rfl, RepL.of_strs K Fz ι l⟩
theorem RepL.of_ints (K : PySem.W.Frag) (Fz : Hp) (ι : Nat → Addr) : ∀ l : List Int, RepL K Fz ι (l.map D.int) (l.map V.int)
  | [] => rfl
  | x :: l => ⟨_, _, rfl, rfl, RepL.of_ints K Fz ι l⟩
theorem RepL.nil_iff {vs : List V} : RepL K Fz ι [] vs ↔ vs = [] := Iff.rfl
theorem bndL_strs : ∀ l : List Str, bndL n (l.map D.str)
  | [] => trivial
  | _ :: l => ⟨trivial, bndL_strs l⟩
theorem bndL_ints : ∀ l : List Int, bndL n (l.map D.int)
  | [] => trivial
  | _ :: l => ⟨trivial, bndL_ints l⟩
end

section
variable {K : PySem.W.Frag} {Fz Fz' H H' : Hp} {ι ι' : Nat → Addr} {n n' : Nat} {M : Mem}
theorem Grow.rep (g : Grow Fz H ι n Fz' H' ι' n') {d : D} {v : V} (b : bnd n d) (r : RepV K Fz ι d v) : RepV K Fz' ι' d v := RepV.up g.fz g.io d v b r
theorem Grow.repL (g : Grow Fz H ι n Fz' H' ι' n') {l : List D} {vs : List V} (b : bndL n l) (r : RepL K Fz ι l vs) : RepL K Fz' ι' l vs := RepL.up g.fz g.io l vs b r
theorem Rel.fresh (R : Rel K Fz H ι M) {p : Addr} (h : H p = none) : Fz p = none ∧ ∀ k, k < M.length → ι k ≠ p := by
  refine ⟨?_, fun k hk e => R.occ k hk (by rw [e]; exact h)⟩
  cases e : Fz p with
  | none => rfl
  | some o =>
    have q := R.fz _ _ e
    rw [h] at q
    cases q
/-- a new thing that stands for good -/
theorem Rel.laid (R : Rel K Fz H ι M) {p : Addr} {o : HO} (h : H p = none) : Rel K (upd Fz p o) (upd H p o) ι M ∧ Grow Fz H ι M.length (upd Fz p o) (upd H p o) ι M.length := by
  obtain ⟨hf, hi⟩ := R.fresh h
  have g : Grow Fz H ι M.length (upd Fz p o) (upd H p o) ι M.length :=
    ⟨fun a u e => by rw [upd_ne (ne_of_none e hf)]; exact e, fun _ _ => rfl, Nat.le_refl _, fun k h1 h2 => absurd h2 (by omega),
      fun a u e _ => by rw [upd_ne (ne_of_none e h)]; exact e, fun a e => by
        unfold upd; split
        · exact fun z => by cases z
        · exact e, fun a e => by
        by_cases q : a = p
        · exact .inr (.inl (q ▸ h))
        · rw [upd_ne q] at e; exact .inl e⟩
  refine ⟨⟨fun a u e => ?_, fun k mo e => ?_, R.wf, fun k hk => g.th _ (R.occ k hk), R.inj⟩, g⟩
  · by_cases q : a = p
    · subst q; rw [upd_same] at e ⊢; exact e
    · rw [upd_ne q] at e ⊢; exact R.fz a u e
  · have hk : k < M.length := (List.getElem?_eq_some_iff.mp e).1
    have ob := R.ob k mo e
    have wf := R.wf k mo e
    have ne := hi k hk
    cases mo with
    | lst l =>
      obtain ⟨q0, vs, q1, q2⟩ := ob
      exact ⟨by rw [upd_ne ne]; exact q0, vs, by rw [upd_ne ne]; exact q1, RepL.up g.fz g.io _ _ wf q2⟩
    | dK l =>
      obtain ⟨q0, vs, q1, q2⟩ := ob
      exact ⟨by rw [upd_ne ne]; exact q0, vs, by rw [upd_ne ne]; exact q1, RepP.up g.fz g.io _ _ wf q2⟩
    | dT l =>
      obtain ⟨q0, vs, q1, q2⟩ := ob
      exact ⟨by rw [upd_ne ne]; exact q0, vs, by rw [upd_ne ne]; exact q1, RepP.up g.fz g.io _ _ wf q2⟩
    | ins C l =>
      obtain ⟨q0, dx, vs, q1, q2⟩ := ob
      exact ⟨by rw [upd_ne ne]; exact q0, dx, vs, by rw [upd_ne ne]; exact q1, RepP.up g.fz g.io _ _ wf q2⟩
    | gone => trivial
/-- the addresses with one more -/
def ext (ι : Nat → Addr) (n : Nat) (p : Addr) : Nat → Addr := fun k => if k = n then p else ι k
theorem ext_same {p : Addr} : ext ι n p n = p := by unfold ext; rw [if_pos rfl]
theorem ext_lt {p : Addr} {k : Nat} (h : k < n) : ext ι n p k = ι k := by unfold ext; rw [if_neg (Nat.ne_of_lt h)]
theorem ObM.keep {M : Mem} (R : Rel K Fz H ι M) {k : Nat} {mo : MO} {m : Nat} (e : M[k]? = some mo) (hF : ∀ a o, Fz a = some o → Fz' a = some o) (hF0 : Fz' (ι k) = Fz (ι k)) (hi : ∀ j, j < M.length → ι' j = ι j) (hH : H' (ι k) = H (ι k)) : ObM K Fz' H' ι' (ι' k) mo := by
  have hk : k < M.length := (List.getElem?_eq_some_iff.mp e).1
  have ob := R.ob k mo e
  have wf := R.wf k mo e
  rw [hi k hk]
  cases mo with
  | lst l =>
    obtain ⟨q0, vs, q1, q2⟩ := ob
    exact ⟨hF0.trans q0, vs, hH.trans q1, RepL.up hF hi _ _ wf q2⟩
  | dK l =>
    obtain ⟨q0, vs, q1, q2⟩ := ob
    exact ⟨hF0.trans q0, vs, hH.trans q1, RepP.up hF hi _ _ wf q2⟩
  | dT l =>
    obtain ⟨q0, vs, q1, q2⟩ := ob
    exact ⟨hF0.trans q0, vs, hH.trans q1, RepP.up hF hi _ _ wf q2⟩
  | ins C l =>
    obtain ⟨q0, dx, vs, q1, q2⟩ := ob
    exact ⟨hF0.trans q0, dx, vs, hH.trans q1, RepP.up hF hi _ _ wf q2⟩
  | gone => trivial
/-- a new thing that may change: the memory's last -/
theorem Rel.alloc (R : Rel K Fz H ι M) {p : Addr} {o : HO} {mo : MO} (h : H p = none) (b : mo.bnd M.length) (q : ∀ H' ι', H' p = some o → (∀ j, j < M.length → ι' j = ι j) → Fz p = none → ObM K Fz H' ι' p mo) :
    Rel K Fz (upd H p o) (ext ι M.length p) (M ++ [mo]) ∧ Grow Fz H ι M.length Fz (upd H p o) (ext ι M.length p) (M ++ [mo]).length := by
  obtain ⟨hf, hi⟩ := R.fresh h
  have hl : (M ++ [mo]).length = M.length + 1 := by simp
  have io : ∀ j, j < M.length → ext ι M.length p j = ι j := fun j hj => ext_lt hj
  have th : ∀ a, H a ≠ none → upd H p o a ≠ none := fun a e => by
    unfold upd; split
    · exact fun z => by cases z
    · exact e
  refine ⟨⟨fun a u e => ?_, fun k m e => ?_, fun k m e => ?_, fun k hk => ?_, fun i j hi' hj' e => ?_⟩, ⟨fun _ _ e => e, io, by omega, fun k h1 h2 => ?_, fun a u e _ => by rw [upd_ne (ne_of_none e h)]; exact e, th, fun a e => .inl e⟩⟩
  · rw [upd_ne (ne_of_none e hf)]; exact R.fz a u e
  · by_cases hk : k < M.length
    · rw [List.getElem?_append_left hk] at e
      exact ObM.keep (m := 0) R e (fun _ _ e => e) rfl io (upd_ne (hi k hk))
    · have hk2 : k < (M ++ [mo]).length := (List.getElem?_eq_some_iff.mp e).1
      have : k = M.length := by omega
      subst this
      rw [List.getElem?_append_right (Nat.le_refl _), Nat.sub_self] at e
      have e : mo = m := Option.some.inj e
      subst e
      rw [ext_same]
      exact q _ _ upd_same io hf
  · rw [hl]
    by_cases hk : k < M.length
    · rw [List.getElem?_append_left hk] at e
      exact MO.bnd.up (Nat.le_succ _) m (R.wf k m e)
    · have hk2 : k < (M ++ [mo]).length := (List.getElem?_eq_some_iff.mp e).1
      have : k = M.length := by omega
      subst this
      rw [List.getElem?_append_right (Nat.le_refl _), Nat.sub_self] at e
      have e : mo = m := Option.some.inj e
      subst e
      exact MO.bnd.up (Nat.le_succ _) mo b
  · rw [hl] at hk
    by_cases hk2 : k < M.length
    · rw [io k hk2]; exact th _ (R.occ k hk2)
    · have : k = M.length := by omega
      subst this
      rw [ext_same, upd_same]; exact fun z => by cases z
  · rw [hl] at hi' hj'
    by_cases h1 : i < M.length
    · by_cases h2 : j < M.length
      · rw [io i h1, io j h2] at e; exact R.inj i j h1 h2 e
      · have : j = M.length := by omega
        subst this
        rw [ext_same, io i h1] at e
        exact absurd e (hi i h1)
    · have : i = M.length := by omega
      subst this
      by_cases h2 : j < M.length
      · rw [ext_same, io j h2] at e
        exact absurd e.symm (hi j h2)
      · omega
  · have : k = M.length := by omega
    subst this
    rw [ext_same]; exact h
/-- a changing thing is changed -/
theorem Rel.write (R : Rel K Fz H ι M) {k : Nat} {o : HO} {mo : MO} (hk : k < M.length) (hf : Fz (ι k) = none) (b : mo.bnd M.length) (q : ObM K Fz (upd H (ι k) o) ι (ι k) mo) :
    Rel K Fz (upd H (ι k) o) ι (M.set k mo) ∧ Grow Fz H ι M.length Fz (upd H (ι k) o) ι (M.set k mo).length := by
  have hl : (M.set k mo).length = M.length := by simp
  have th : ∀ a, H a ≠ none → upd H (ι k) o a ≠ none := fun a e => by
    unfold upd; split
    · exact fun z => by cases z
    · exact e
  refine ⟨⟨fun a u e => ?_, fun j m e => ?_, fun j m e => ?_, fun j hj => th _ (R.occ j (by omega)), fun i j hi hj e => R.inj i j (by omega) (by omega) e⟩,
    ⟨fun _ _ e => e, fun _ _ => rfl, by omega, fun j h1 h2 => by omega, fun a u e hne => by rw [upd_ne (Ne.symm (hne k hk))]; exact e, th, fun a e => .inl e⟩⟩
  · rw [upd_ne (ne_of_none e hf)]; exact R.fz a u e
  · have hj : j < M.length := by
      have := (List.getElem?_eq_some_iff.mp e).1
      omega
    by_cases hjk : j = k
    · subst hjk
      rw [List.getElem?_set_self hk] at e
      have e : mo = m := Option.some.inj e
      subst e
      exact q
    · rw [List.getElem?_set_ne (Ne.symm hjk)] at e
      exact ObM.keep (m := 0) R e (fun _ _ e => e) rfl (fun _ _ => rfl) (upd_ne fun z => hjk (R.inj _ _ hj hk z))
  · rw [hl]
    by_cases hjk : j = k
    · subst hjk
      rw [List.getElem?_set_self hk] at e
      have e : mo = m := Option.some.inj e
      subst e
      exact b
    · rw [List.getElem?_set_ne (Ne.symm hjk)] at e
      exact R.wf j m e
end
end MM

/-! MMb: the functions that a body's syntax is read as (EF, BF, AF, SF), what their answers promise (Post), and the judgements XE, XT, XA, XS, XSs. -/
namespace MM
open PySem PySem.Spec PyProof.Rows L2

structure Exc where
  cls : Addr
  fs : List (Str × D)
inductive Fl (α : Type) where
  | ok (a : α) (M : Mem)
  | exc (e : Exc) (M : Mem)
  | fail
def Fl.bind {α β : Type} (r : Fl α) (k : α → Mem → Fl β) : Fl β :=
  match r with
  | .ok a M => k a M
  | .exc e M => .exc e M
  | .fail => .fail
@[simp] theorem Fl.bind_ok {α β : Type} (a : α) (M : Mem) (k : α → Mem → Fl β) : (Fl.ok a M).bind k = k a M := rfl
@[simp] theorem Fl.bind_exc {α β : Type} (e : Exc) (M : Mem) (k : α → Mem → Fl β) : (Fl.exc (α := α) e M).bind k = .exc e M := rfl
@[simp] theorem Fl.bind_fail {α β : Type} (k : α → Mem → Fl β) : (Fl.fail (α := α)).bind k = .fail := rfl

abbrev Ro := List (Option D)
abbrev EF := Ro → Mem → Fl D
abbrev BF := Ro → Mem → Fl Bool
abbrev AF := Ro → Mem → Fl (List D)
inductive Fw where
  | nx (ρ : Ro) | rt (d : D) | bk (ρ : Ro) | ct (ρ : Ro)
abbrev SF := Ro → Mem → Fl Fw

structure Sim (K : PySem.W.Frag) (Fz H : Hp) (ι : Nat → Addr) (M : Mem) (ρ : Ro) (σ : L2.St) : Prop where
  rel : Rel K Fz H ι M
  len : ρ.length = σ.length
  slot : ∀ (i : Nat) (d : D), ρ[i]? = some (some d) → bnd M.length d ∧ ∃ v, σ[i]? = some (some v) ∧ RepV K Fz ι d v

def RepX (K : PySem.W.Frag) (Fz H : Hp) (ι : Nat → Addr) (e : Exc) (cls : Value) (dx : Option Addr) : Prop :=
  cls = .ref e.cls ∧ match dx with
    | none => e.fs = []
    | some d => ∃ vs, H d = some (.xd vs) ∧ RepP K Fz ι e.fs vs

section
variable (K : PySem.W.Frag) (E : XK)
def Post {α β : Type} (Fz H : Hp) (ι : Nat → Addr) (n : Nat) (R : Hp → (Nat → Addr) → Nat → α → β → Prop) (Q : β → Hp → Prop) : Fl α → Prop
  | .ok a M' => ∀ Fz' H' ι' b, Grow Fz H ι n Fz' H' ι' M'.length → Rel K Fz' H' ι' M' → R Fz' ι' M'.length a b → Q b H'
  | .exc e M' => ∀ Fz' H' ι' cls dx, Grow Fz H ι n Fz' H' ι' M'.length → Rel K Fz' H' ι' M' → RepX K Fz' H' ι' e cls dx → E cls dx H'
  | .fail => False
def RD : Hp → (Nat → Addr) → Nat → D → V → Prop := fun Fz ι n d v => bnd n d ∧ RepV K Fz ι d v
def RLs : Hp → (Nat → Addr) → Nat → List D → List V → Prop := fun Fz ι n d v => bndL n d ∧ RepL K Fz ι d v
def RB : Hp → (Nat → Addr) → Nat → Bool → Bool → Prop := fun _ _ _ b c => c = b
def PostS (Fz H : Hp) (ι : Nat → Addr) (n : Nat) (D : Ends) : Fl Fw → Prop
  | .ok (.nx ρ') M' => ∀ Fz' H' ι' σ', Grow Fz H ι n Fz' H' ι' M'.length → Sim K Fz' H' ι' M' ρ' σ' → D.nx σ' H'
  | .ok (.bk ρ') M' => ∀ Fz' H' ι' σ', Grow Fz H ι n Fz' H' ι' M'.length → Sim K Fz' H' ι' M' ρ' σ' → D.bk σ' H'
  | .ok (.ct ρ') M' => ∀ Fz' H' ι' σ', Grow Fz H ι n Fz' H' ι' M'.length → Sim K Fz' H' ι' M' ρ' σ' → D.ct σ' H'
  | .ok (.rt d) M' => ∀ Fz' H' ι' v, Grow Fz H ι n Fz' H' ι' M'.length → Rel K Fz' H' ι' M' → bnd M'.length d → RepV K Fz' ι' d v → D.rt v H'
  | .exc e M' => ∀ Fz' H' ι' cls dx, Grow Fz H ι n Fz' H' ι' M'.length → Rel K Fz' H' ι' M' → RepX K Fz' H' ι' e cls dx → E cls dx H'
  | .fail => False
/-- the readings that are these functions -/
def wE (f : EF) : TE := fun σ H Q => ∃ Fz ι M ρ, Sim K Fz H ι M ρ σ ∧ Post K E Fz H ι M.length (RD K) Q (f ρ M)
def wA (f : AF) : TA := fun σ H Q => ∃ Fz ι M ρ, Sim K Fz H ι M ρ σ ∧ Post K E Fz H ι M.length (RLs K) Q (f ρ M)
def wB (f : BF) : TT := fun σ H Q => ∃ Fz ι M ρ, Sim K Fz H ι M ρ σ ∧ Post K E Fz H ι M.length RB Q (f ρ M)
def wS (f : SF) : TS := fun D σ H => ∃ Fz ι M ρ, Sim K Fz H ι M ρ σ ∧ PostS K E Fz H ι M.length D (f ρ M)
end
section
variable {K : PySem.W.Frag} {E : XK} {Fz H Fz' H' : Hp} {ι ι' : Nat → Addr} {n n' : Nat} {M M' : Mem} {ρ : Ro} {σ : L2.St}
theorem Post.grow {α β : Type} {R : Hp → (Nat → Addr) → Nat → α → β → Prop} {Q : β → Hp → Prop} (g : Grow Fz H ι n Fz' H' ι' n') : ∀ {r : Fl α}, Post K E Fz H ι n R Q r → Post K E Fz' H' ι' n' R Q r
  | .ok a M', h => fun Fz2 H2 ι2 b g2 rel q => h Fz2 H2 ι2 b (g.trans g2) rel q
  | .exc e M', h => fun Fz2 H2 ι2 c dx g2 rel q => h Fz2 H2 ι2 c dx (g.trans g2) rel q
  | .fail, h => h
theorem PostS.grow {D : Ends} (g : Grow Fz H ι n Fz' H' ι' n') : ∀ {r : Fl Fw}, PostS K E Fz H ι n D r → PostS K E Fz' H' ι' n' D r
  | .ok (.nx _) M', h => fun Fz2 H2 ι2 b g2 q => h Fz2 H2 ι2 b (g.trans g2) q
  | .ok (.bk _) M', h => fun Fz2 H2 ι2 b g2 q => h Fz2 H2 ι2 b (g.trans g2) q
  | .ok (.ct _) M', h => fun Fz2 H2 ι2 b g2 q => h Fz2 H2 ι2 b (g.trans g2) q
  | .ok (.rt _) M', h => fun Fz2 H2 ι2 b g2 rel q r => h Fz2 H2 ι2 b (g.trans g2) rel q r
  | .exc e M', h => fun Fz2 H2 ι2 c dx g2 rel q => h Fz2 H2 ι2 c dx (g.trans g2) rel q
  | .fail, h => h
theorem Sim.grow (S : Sim K Fz H ι M ρ σ) (g : Grow Fz H ι M.length Fz' H' ι' M'.length) (R : Rel K Fz' H' ι' M') : Sim K Fz' H' ι' M' ρ σ :=
  ⟨R, S.len, fun i d e => by
    obtain ⟨b, v, e', r⟩ := S.slot i d e
    exact ⟨bnd.up g.le d b, v, e', g.rep b r⟩⟩
/-- what is known now -/
theorem Post.now {α β : Type} {R : Hp → (Nat → Addr) → Nat → α → β → Prop} {Q : β → Hp → Prop} {a : α} {b : β} (h : Post K E Fz H ι M.length R Q (.ok a M)) (S : Rel K Fz H ι M) (r : R Fz ι M.length a b) : Q b H :=
  h Fz H ι b (Grow.refl _ _ _ _) S r
/-- one behind another: the first one's wish -/
theorem Post.first {α β γ δ : Type} {R1 : Hp → (Nat → Addr) → Nat → α → β → Prop} {Q1 : β → Hp → Prop} {R2 : Hp → (Nat → Addr) → Nat → γ → δ → Prop} {Q2 : δ → Hp → Prop} {k : α → Mem → Fl γ} :
    ∀ {r : Fl α}, Post K E Fz H ι n R2 Q2 (r.bind k) →
    (∀ a M1 Fz1 H1 ι1 b, Grow Fz H ι n Fz1 H1 ι1 M1.length → Rel K Fz1 H1 ι1 M1 → R1 Fz1 ι1 M1.length a b → Post K E Fz1 H1 ι1 M1.length R2 Q2 (k a M1) → Q1 b H1) → Post K E Fz H ι n R1 Q1 r
  | .ok a M1, h, hk => fun Fz1 H1 ι1 b g rel q => hk a M1 Fz1 H1 ι1 b g rel q (Post.grow g h)
  | .exc e M1, h, _ => h
  | .fail, h, _ => h
theorem PostS.first {α β : Type} {R1 : Hp → (Nat → Addr) → Nat → α → β → Prop} {Q1 : β → Hp → Prop} {D : Ends} {k : α → Mem → Fl Fw} :
    ∀ {r : Fl α}, PostS K E Fz H ι n D (r.bind k) →
    (∀ a M1 Fz1 H1 ι1 b, Grow Fz H ι n Fz1 H1 ι1 M1.length → Rel K Fz1 H1 ι1 M1 → R1 Fz1 ι1 M1.length a b → PostS K E Fz1 H1 ι1 M1.length D (k a M1) → Q1 b H1) → Post K E Fz H ι n R1 Q1 r
  | .ok a M1, h, hk => fun Fz1 H1 ι1 b g rel q => hk a M1 Fz1 H1 ι1 b g rel q (PostS.grow g h)
  | .exc e M1, h, _ => h
  | .fail, h, _ => h
end
theorem _root_.L2.PE.imp {X : Cx} {e : Expr} {t t' : TE} (h : PE X e t) (i : ∀ σ H Q, t' σ H Q → t σ H Q) : PE X e t' := ⟨fun pins s σ H Q I q => h.run pins s σ H Q I (i σ H Q q)⟩
theorem _root_.L2.PT.imp {X : Cx} {e : Expr} {t t' : TT} (h : PT X e t) (i : ∀ σ H Q, t' σ H Q → t σ H Q) : PT X e t' := ⟨fun pins s σ H Q I q => h.run pins s σ H Q I (i σ H Q q)⟩
theorem _root_.L2.PW.imp {X : Cx} {e : Expr} {t t' : TT} (h : PW X e t) (i : ∀ σ H Q, t' σ H Q → t σ H Q) : PW X e t' := ⟨fun wh pins s σ H Q I q => h.run wh pins s σ H Q I (i σ H Q q)⟩
theorem _root_.L2.PA.imp {X : Cx} {e : List Expr} {t t' : TA} (h : PA X e t) (i : ∀ σ H Q, t' σ H Q → t σ H Q) : PA X e t' := ⟨fun pos pins s σ H Q I q => h.run pos pins s σ H Q I (i σ H Q q)⟩
theorem _root_.L2.PS.imp {X : Cx} {e : Stmt} {t t' : TS} (h : PS X e t) (i : ∀ D σ H, t' D σ H → t D σ H) : PS X e t' := ⟨fun pins s σ H D I q => h.run pins s σ H D I (i D σ H q)⟩
theorem _root_.L2.PSs.imp {X : Cx} {e : List Stmt} {t t' : TS} (h : PSs X e t) (i : ∀ D σ H, t' D σ H → t D σ H) : PSs X e t' := ⟨fun pins s σ H D I q => h.run pins s σ H D I (i D σ H q)⟩
theorem _root_.L2.PG.imp {X : Cx} {e : Expr} {t t' : TG} (h : PG X e t) (i : ∀ v σ H Q, t' v σ H Q → t v σ H Q) : PG X e t' := ⟨fun pins s σ H v u Q I r q => h.run pins s σ H v u Q I r (i v σ H Q q)⟩
theorem _root_.L2.PTs.imp {X : Cx} {e : List Expr} {t t' : TT} (h : PTs X e t) (i : ∀ σ H Q, t' σ H Q → t σ H Q) : PTs X e t' := ⟨fun pins s σ H Q I q => h.run pins s σ H Q I (i σ H Q q)⟩

abbrev XE (X : Cx) (E : XK) (e : Expr) (f : EF) : Prop := PE X e (wE X.K E f)
abbrev XT (X : Cx) (E : XK) (e : Expr) (f : BF) : Prop := PT X e (wB X.K E f)
abbrev XW (X : Cx) (E : XK) (e : Expr) (f : BF) : Prop := PW X e (wB X.K E f)
abbrev XA (X : Cx) (E : XK) (es : List Expr) (f : AF) : Prop := PA X es (wA X.K E f)
abbrev XS (X : Cx) (E : XK) (st : Stmt) (f : SF) : Prop := PS X st (wS X.K E f)
abbrev XSs (X : Cx) (E : XK) (st : List Stmt) (f : SF) : Prop := PSs X st (wS X.K E f)

/-! ### expressions -/
def eVar (i : Nat) : EF := fun ρ M => match ρ[i]? with
  | some (some d) => .ok d M
  | _ => .fail
def eC (d : D) : EF := fun _ M => .ok d M
def eFail : EF := fun _ _ => .fail
def eBin (op : D → D → Mem → Fl D) (fa fb : EF) : EF := fun ρ M => (fa ρ M).bind fun a M1 => (fb ρ M1).bind fun b M2 => op a b M2
def eUn (op : D → Mem → Fl D) (fa : EF) : EF := fun ρ M => (fa ρ M).bind fun a M1 => op a M1
def bOf (f : EF) : BF := fun ρ M => (f ρ M).bind fun d M1 => match d with
  | .bl b => .ok b M1
  | _ => .fail
def aNil : AF := fun _ M => .ok [] M
def aCons (fa : EF) (fr : AF) : AF := fun ρ M => (fa ρ M).bind fun a M1 => (fr ρ M1).bind fun l M2 => .ok (a :: l) M2
/-- a two-place operation on values as a function on data -/
def OpS (K : PySem.W.Frag) (E : XK) (r : R2) (op : D → D → Mem → Fl D) : Prop :=
  ∀ Fz H ι M a b x y Q, Rel K Fz H ι M → bnd M.length a → bnd M.length b → RepV K Fz ι a x → RepV K Fz ι b y → Post K E Fz H ι M.length (RD K) Q (op a b M) → r x y H Q
def UnS (K : PySem.W.Frag) (E : XK) (r : V → Hp → VK → Prop) (op : D → Mem → Fl D) : Prop :=
  ∀ Fz H ι M a x Q, Rel K Fz H ι M → bnd M.length a → RepV K Fz ι a x → Post K E Fz H ι M.length (RD K) Q (op a M) → r x H Q
/-- a call on values -/
def CaS (K : PySem.W.Frag) (E : XK) (r : List V → Hp → VK → Prop) (op : List D → Mem → Fl D) : Prop :=
  ∀ Fz H ι M l vs Q, Rel K Fz H ι M → bndL M.length l → RepL K Fz ι l vs → Post K E Fz H ι M.length (RD K) Q (op l M) → r vs H Q
def eCa (op : List D → Mem → Fl D) (fa : AF) : EF := fun ρ M => (fa ρ M).bind fun l M1 => op l M1

section
variable {X : Cx} {E : XK} {a b e : Expr} {es rest : List Expr} {fa fb f : EF} {fr : AF} {pos p : Pos} {K : PySem.W.Frag}
theorem xe_var (i : Nat) {x : Str} (hN : X.N[i]? = some x := by rfl) (hv : Vis X.env.scope x := by first | exact Or.inl rfl | exact Or.inr (Or.inl rfl) | exact Or.inr (Or.inr rfl)) (hd : (x == ("__debug__" : Str)) = false := by decide)
    (hcd : (x == ("__classdict__" : Str)) = false := by decide) : XE X E (.Name x pos) (eVar i) := by
  refine (pe_var hN hv hd hcd).imp fun σ H Q h => ?_
  obtain ⟨Fz, ι, M, ρ, S, q⟩ := h
  unfold eVar at q
  split at q
  · rename_i d e
    obtain ⟨b, v, e', r⟩ := S.slot i d e
    exact ⟨v, e', q.now S.rel ⟨b, r⟩⟩
  · exact q.elim
theorem xe_c {t : TE} {d : D} {v : V} (h : PE X e t) (ht : ∀ σ H Q, Q v H → t σ H Q) (hb : bnd 0 d) (hr : ∀ K Fz ι, RepV K Fz ι d v) : XE X E e (eC d) := by
  refine h.imp fun σ H Q h => ?_
  obtain ⟨Fz, ι, M, ρ, S, q⟩ := h
  exact ht σ H Q (q.now S.rel ⟨bnd.up (Nat.zero_le _) d hb, hr _ _ _⟩)
theorem xe_int {i j} : XE X E (.Constant (.int i) j pos) (eC (.int i)) := xe_c (v := .int i) pe_int (fun _ _ _ h => h) trivial fun _ _ _ => rfl
theorem xe_bl {b j} : XE X E (.Constant (.bool b) j pos) (eC (.bl b)) := xe_c (v := .bl b) pe_bl (fun _ _ _ h => h) trivial fun _ _ _ => rfl
theorem xe_non {j} : XE X E (.Constant .none j pos) (eC .non) := xe_c (v := .non) pe_non (fun _ _ _ h => h) trivial fun _ _ _ => rfl
theorem xe_str {x j} : XE X E (.Constant (.str x) j pos) (eC (.str x)) := xe_c (v := .str x) pe_str (fun _ _ _ h => h) trivial fun _ _ _ => rfl
theorem xe_fail : XE X E e eFail := ⟨fun pins s σ H Q I h => by
  obtain ⟨_, _, _, _, _, q⟩ := h
  exact q.elim⟩
/-- a module's constant: a number, a text .. -/
theorem xe_glob {x : Str} {d : D} {v : V} {u : Value} (hg : Gl X x) (hm : X.mg x = some u) (r : RelV v u) (hb : bnd 0 d) (hr : ∀ K Fz ι, RepV K Fz ι d v) (hd : (x == ("__debug__" : Str)) = false := by decide) : XE X E (.Name x pos) (eC d) :=
  xe_c (pe_glob hg hm r hd) (fun _ _ _ h => h) hb hr
theorem bin_w {r : R2} {op : D → D → Mem → Fl D} (ho : OpS K E r op) : ∀ σ H Q, wE K E (eBin op fa fb) σ H Q → tOp r (wE K E fa) (wE K E fb) σ H Q := by
  rintro σ H Q ⟨Fz, ι, M, ρ, S, q⟩
  refine ⟨Fz, ι, M, ρ, S, q.first fun a M1 Fz1 H1 ι1 x g1 R1 ra q1 => ?_⟩
  refine ⟨Fz1, ι1, M1, ρ, S.grow g1 R1, q1.first fun b M2 Fz2 H2 ι2 y g2 R2 rb q2 => ?_⟩
  exact ho Fz2 H2 ι2 M2 a b x y Q R2 (bnd.up g2.le a ra.1) rb.1 (g2.rep ra.1 ra.2) rb.2 q2
theorem xe_bin {o : Operator} {r : R2} {op : D → D → Mem → Fl D} (hr : OpR X (binaryOp o) r) (ho : OpS X.K E r op) (ha : XE X E a fa) (hb : XE X E b fb) : XE X E (.BinOp a o b pos) (eBin op fa fb) :=
  (pe_op hr ha hb).imp (bin_w ho)
theorem xe_cmp {o : CmpOp} {r : R2} {op : D → D → Mem → Fl D} (hr : OpR X (compareOp o) r) (ho : OpS X.K E r op) (ha : XE X E a fa) (hb : XE X E b fb) (hm : behindInMarks o b = false) : XE X E (.Compare a [o] [b] pos) (eBin op fa fb) :=
  (pe_cmpR hr ha hb hm).imp (bin_w ho)
theorem xe_un {o : UnaryOp} {r : V → Hp → VK → Prop} {op : D → Mem → Fl D} (hr : UnR X (unaryOp o) r) (ho : UnS X.K E r op) (ha : XE X E a fa) : XE X E (.UnaryOp o a pos) (eUn op fa) := by
  refine (pe_un hr ha).imp ?_
  rintro σ H Q ⟨Fz, ι, M, ρ, S, q⟩
  refine ⟨Fz, ι, M, ρ, S, q.first fun a M1 Fz1 H1 ι1 x g1 R1 ra q1 => ?_⟩
  exact ho Fz1 H1 ι1 M1 a x Q R1 ra.1 ra.2 q1
theorem xe_ix {r : R2} {op : D → D → Mem → Fl D} (hr : IxR X r) (ho : OpS X.K E r op) (ha : XE X E a fa) (hb : XE X E b fb) (hs : PlainIx b := by exact fun _ _ => rfl) : XE X E (.Subscript a b pos) (eBin op fa fb) :=
  (pe_ix hr ha hb hs).imp (bin_w ho)
/-! ### argument lists -/
theorem xa_nil : XA X E [] aNil := pa_nil.imp (by
  rintro σ H Q ⟨Fz, ι, M, ρ, S, q⟩
  exact q.now S.rel ⟨trivial, rfl⟩)
theorem xa_cons (ha : XE X E e f) (hr : XA X E es fr) (hs : starEach (e :: es) X.env = (false, eval e X.env) :: starEach es X.env := by rfl) : XA X E (e :: es) (aCons f fr) := (pa_cons ha hr hs).imp (by
  rintro σ H Q ⟨Fz, ι, M, ρ, S, q⟩
  refine ⟨Fz, ι, M, ρ, S, q.first fun a M1 Fz1 H1 ι1 x g1 R1 ra q1 => ?_⟩
  refine ⟨Fz1, ι1, M1, ρ, S.grow g1 R1, q1.first fun l M2 Fz2 H2 ι2 xs g2 R2 rb q2 => ?_⟩
  exact q2.now R2 ⟨⟨bnd.up g2.le a ra.1, rb.1⟩, x, xs, rfl, g2.rep ra.1 ra.2, rb.2⟩)
theorem ca_w {r : List V → Hp → VK → Prop} {op : List D → Mem → Fl D} (ho : CaS K E r op) : ∀ σ H Q, wE K E (eCa op fr) σ H Q → tCB r (wA K E fr) σ H Q := by
  rintro σ H Q ⟨Fz, ι, M, ρ, S, q⟩
  refine ⟨Fz, ι, M, ρ, S, q.first fun a M1 Fz1 H1 ι1 x g1 R1 ra q1 => ?_⟩
  exact ho Fz1 H1 ι1 M1 a x Q R1 ra.1 ra.2 q1
theorem xe_callB {x : Str} {id : String} {r : List V → Hp → VK → Prop} {op : List D → Mem → Fl D} (hc : CallR X (.builtin id) r) (ho : CaS X.K E r op) (hm : X.mg x = none) (hv : bootBuiltins x = some (.builtin id)) (ha : XA X E (e :: es) fr)
    (hg : Gl X x := by rfl) (hn : x ≠ "__name__" := by decide) (hdb : (x == ("__debug__" : Str)) = false := by decide)
    (he : starEach (e :: es) X.env = (false, eval e X.env) :: starEach es X.env := by rfl) (hpl : (backTo pos (starEach es X.env)).any (·.1) = false := by rfl) : XE X E (.Call (.Name x p) (e :: es) [] pos) (eCa op fr) :=
  (pe_callB hc hg hm hv ha hn hdb he hpl).imp (ca_w ho)
theorem xe_callTy {x : Str} {id : String} {r : List V → Hp → VK → Prop} {op : List D → Mem → Fl D} (hc : CallR X (.type id) r) (ho : CaS X.K E r op) (hm : X.mg x = none) (hv : bootBuiltins x = some (.type id)) (ha : XA X E (e :: es) fr)
    (hg : Gl X x := by rfl) (hn : x ≠ "__name__" := by decide) (hdb : (x == ("__debug__" : Str)) = false := by decide)
    (he : starEach (e :: es) X.env = (false, eval e X.env) :: starEach es X.env := by rfl) (hpl : (backTo pos (starEach es X.env)).any (·.1) = false := by rfl) : XE X E (.Call (.Name x p) (e :: es) [] pos) (eCa op fr) :=
  (pe_callTy hc hg hm hv ha hn hdb he hpl).imp (ca_w ho)
/-! ### displays -/
def tupD (l : List D) (M : Mem) : Fl D := if l.length ≤ 1000000 then .ok (.tup l) M else .fail
def lstF (l : List D) (M : Mem) : Fl D := if l.length ≤ 1000000 then .ok (.lst l) M else .fail
def lstP (l : List D) (M : Mem) : Fl D := if l.length ≤ 1000000 then .ok (.ptr M.length) (M ++ [MO.lst l]) else .fail
theorem small6 {n : Nat} (h : n ≤ 1000000) : n ≤ sizeLine := Nat.le_trans h (by decide)
theorem small6' {n : Nat} (h : n < 1000000) : n < sizeLine := Nat.lt_of_lt_of_le h (by decide)
theorem xe_tup {x1} (h : XA X E es fr) : XE X E (.Tuple es x1 pos) (eCa tupD fr) := (pe_tup h).imp (by
  rintro σ H Q ⟨Fz, ι, M, ρ, S, q⟩
  refine ⟨Fz, ι, M, ρ, S, q.first fun l M1 Fz1 H1 ι1 xs g1 R1 ra q1 => ?_⟩
  unfold tupD at q1
  split at q1
  · rename_i hl
    refine ⟨by rw [← RepL.len ra.2]; exact small6 hl, fun p hp => ?_⟩
    obtain ⟨R2, g2⟩ := R1.laid (o := .tup xs) hp
    exact q1 _ _ _ _ g2 R2 ⟨ra.1, p, xs, rfl, SqT.of upd_same, g2.repL ra.1 ra.2⟩
  · exact q1.elim)
theorem xe_lstF (h : XA X E es fr) : XE X E (.List es pos) (eCa lstF fr) := (pe_lst h).imp (by
  rintro σ H Q ⟨Fz, ι, M, ρ, S, q⟩
  refine ⟨Fz, ι, M, ρ, S, q.first fun l M1 Fz1 H1 ι1 xs g1 R1 ra q1 => ?_⟩
  unfold lstF at q1
  split at q1
  · rename_i hl
    refine ⟨by rw [← RepL.len ra.2]; exact small6 hl, fun p hp => ?_⟩
    obtain ⟨R2, g2⟩ := R1.laid (o := .lst xs) hp
    exact q1 _ _ _ _ g2 R2 ⟨ra.1, p, xs, rfl, upd_same, g2.repL ra.1 ra.2⟩
  · exact q1.elim)
theorem alloc_lst {Fz H : Hp} {ι : Nat → Addr} {M : Mem} {l : List D} {xs : List V} {p : Addr} (R : Rel K Fz H ι M) (hp : H p = none) (b : bndL M.length l) (r : RepL K Fz ι l xs) :
    Rel K Fz (upd H p (.lst xs)) (ext ι M.length p) (M ++ [MO.lst l]) ∧ Grow Fz H ι M.length Fz (upd H p (.lst xs)) (ext ι M.length p) (M ++ [MO.lst l]).length :=
  R.alloc (mo := .lst l) hp b fun H' ι' h1 h2 h3 => ⟨h3, xs, h1, RepL.up (fun _ _ e => e) h2 l xs b r⟩
theorem xe_lstP (h : XA X E es fr) : XE X E (.List es pos) (eCa lstP fr) := (pe_lst h).imp (by
  rintro σ H Q ⟨Fz, ι, M, ρ, S, q⟩
  refine ⟨Fz, ι, M, ρ, S, q.first fun l M1 Fz1 H1 ι1 xs g1 R1 ra q1 => ?_⟩
  unfold lstP at q1
  split at q1
  · rename_i hl
    refine ⟨by rw [← RepL.len ra.2]; exact small6 hl, fun p hp => ?_⟩
    obtain ⟨R2, g2⟩ := alloc_lst R1 hp ra.1 ra.2
    refine q1 _ _ _ _ g2 R2 ⟨?_, ?_⟩
    · show M1.length < (M1 ++ [MO.lst l]).length
      simp
    · show V.ref p = V.ref (ext ι1 M1.length p M1.length)
      rw [ext_same]
  · exact q1.elim)
end

/-! ### tests -/
section
variable {X : Cx} {E : XK} {a b c e : Expr} {es rest : List Expr} {fa fb f : EF} {ga gb gc : BF} {pos : Pos} {K : PySem.W.Frag}
theorem bOf_w {t : TE} {f : EF} (h : ∀ σ H Q, wE K E f σ H Q → t σ H Q) : ∀ σ H Q, wB K E (bOf f) σ H Q → t σ H (fun x H1 => ∃ c, x = .bl c ∧ Q c H1) := by
  rintro σ H Q ⟨Fz, ι, M, ρ, S, q⟩
  refine h _ _ _ ⟨Fz, ι, M, ρ, S, q.first fun d M1 Fz1 H1 ι1 x g1 R1 ra q1 => ?_⟩
  cases d with
  | bl b => exact ⟨b, ra.2, q1.now R1 rfl⟩
  | _ => exact q1.elim
theorem xt_cmp {o : CmpOp} {r : R2} {op : D → D → Mem → Fl D} (hr : OpR X (compareOp o) r) (ho : OpS X.K E r op) (ha : XE X E a fa) (hb : XE X E b fb) (hm : behindInMarks o b = false) : XT X E (.Compare a [o] [b] pos) (bOf (eBin op fa fb)) :=
  (pt_cmpR hr ha hb hm).imp (bOf_w (bin_w ho))
theorem xt_val (h : XE X E e f) (he : ∀ whole, isTrue e X.env whole = (do let v ← whole; standAt e.pos; holding [v] (truthy v)) := by intro _; rfl) : XT X E e (bOf f) :=
  (pt_val h he).imp (bOf_w fun _ _ _ h => h)
def bAnd (ga gb : BF) : BF := fun ρ M => (ga ρ M).bind fun b M1 => if b = true then gb ρ M1 else .ok false M1
def bOr (ga gb : BF) : BF := fun ρ M => (ga ρ M).bind fun b M1 => if b = true then .ok true M1 else gb ρ M1
def bNot (ga : BF) : BF := fun ρ M => (ga ρ M).bind fun b M1 => .ok (!b) M1
theorem xw_and1 (ha : XT X E a ga) : XW X E (.BoolOp .And [a] pos) ga := pw_and1 ha
theorem xw_or1 (ha : XT X E a ga) : XW X E (.BoolOp .Or [a] pos) ga := pw_or1 ha
theorem xw_and (ha : XT X E a ga) (hb : XW X E (.BoolOp .And (b :: rest) pos) gb) : XW X E (.BoolOp .And (a :: b :: rest) pos) (bAnd ga gb) := (pw_and ha hb).imp (by
  rintro σ H Q ⟨Fz, ι, M, ρ, S, q⟩
  refine ⟨Fz, ι, M, ρ, S, q.first fun d M1 Fz1 H1 ι1 x g1 R1 ra q1 => ?_⟩
  have ra : x = d := ra
  subst ra
  cases x with
  | true =>
    rw [if_pos rfl] at q1 ⊢
    exact ⟨Fz1, ι1, M1, ρ, S.grow g1 R1, q1⟩
  | false =>
    rw [if_neg Bool.false_ne_true] at q1 ⊢
    exact q1.now R1 rfl)
theorem xw_or (ha : XT X E a ga) (hb : XW X E (.BoolOp .Or (b :: rest) pos) gb) : XW X E (.BoolOp .Or (a :: b :: rest) pos) (bOr ga gb) := (pw_or ha hb).imp (by
  rintro σ H Q ⟨Fz, ι, M, ρ, S, q⟩
  refine ⟨Fz, ι, M, ρ, S, q.first fun d M1 Fz1 H1 ι1 x g1 R1 ra q1 => ?_⟩
  have ra : x = d := ra
  subst ra
  cases x with
  | true =>
    rw [if_pos rfl] at q1 ⊢
    exact q1.now R1 rfl
  | false =>
    rw [if_neg Bool.false_ne_true] at q1 ⊢
    exact ⟨Fz1, ι1, M1, ρ, S.grow g1 R1, q1⟩)
theorem xt_w (h : XW X E e ga) : XT X E e ga := h.pt
theorem xt_not (ha : XT X E a ga) : XT X E (.UnaryOp .Not a pos) (bNot ga) := (pt_not ha).imp (by
  rintro σ H Q ⟨Fz, ι, M, ρ, S, q⟩
  refine ⟨Fz, ι, M, ρ, S, q.first fun d M1 Fz1 H1 ι1 x g1 R1 ra q1 => ?_⟩
  have ra : x = d := ra
  subst ra
  exact q1.now R1 rfl)
def eIf (gc : BF) (fa fb : EF) : EF := fun ρ M => (gc ρ M).bind fun b M1 => if b = true then fa ρ M1 else fb ρ M1
theorem xe_ifExp (hc : XT X E c gc) (ha : XE X E a fa) (hb : XE X E b fb) : XE X E (.IfExp c a b pos) (eIf gc fa fb) := (pe_ifExp hc ha hb).imp (by
  rintro σ H Q ⟨Fz, ι, M, ρ, S, q⟩
  refine ⟨Fz, ι, M, ρ, S, q.first fun d M1 Fz1 H1 ι1 x g1 R1 ra q1 => ?_⟩
  have ra : x = d := ra
  subst ra
  cases x with
  | true =>
    rw [if_pos rfl] at q1 ⊢
    exact ⟨Fz1, ι1, M1, ρ, S.grow g1 R1, q1⟩
  | false =>
    rw [if_neg Bool.false_ne_true] at q1 ⊢
    exact ⟨Fz1, ι1, M1, ρ, S.grow g1 R1, q1⟩)
/-- tests as values -/
def eAnd (fa fb : EF) : EF := fun ρ M => (bOf fa ρ M).bind fun b M1 => if b = true then fb ρ M1 else .ok (.bl false) M1
def eOr (fa fb : EF) : EF := fun ρ M => (bOf fa ρ M).bind fun b M1 => if b = true then .ok (.bl true) M1 else fb ρ M1
def eNot (fa : EF) : EF := fun ρ M => (bOf fa ρ M).bind fun b M1 => .ok (.bl (!b)) M1
theorem xe_one {op} (h : XE X E a fa) : XE X E (.BoolOp op [a] pos) fa := pe_one h
theorem xe_and (ha : XE X E a fa) (hb : XE X E (.BoolOp .And (b :: rest) pos) fb) : XE X E (.BoolOp .And (a :: b :: rest) pos) (eAnd fa fb) := (pe_and ha hb).imp (by
  rintro σ H Q ⟨Fz, ι, M, ρ, S, q⟩
  unfold eAnd bOf at q
  refine ⟨Fz, ι, M, ρ, S, ?_⟩
  cases e : fa ρ M with
  | fail => rw [e] at q; exact q.elim
  | exc => rw [e] at q; exact q
  | ok d M1 =>
    rw [e] at q
    intro Fz1 H1 ι1 x g1 R1 ra
    cases d with
    | bl k =>
      refine ⟨k, ra.2, ?_⟩
      cases k with
      | true =>
        rw [if_pos rfl]
        exact ⟨Fz1, ι1, M1, ρ, S.grow g1 R1, Post.grow g1 (show Post _ _ _ _ _ _ _ _ (fb ρ M1) from q)⟩
      | false =>
        rw [if_neg Bool.false_ne_true]
        exact Post.now (Post.grow g1 (show Post _ _ _ _ _ _ _ _ (Fl.ok (D.bl false) M1) from q)) R1 ⟨trivial, rfl⟩
    | _ => exact (show False from q).elim)
theorem xe_or (ha : XE X E a fa) (hb : XE X E (.BoolOp .Or (b :: rest) pos) fb) : XE X E (.BoolOp .Or (a :: b :: rest) pos) (eOr fa fb) := (pe_or ha hb).imp (by
  rintro σ H Q ⟨Fz, ι, M, ρ, S, q⟩
  unfold eOr bOf at q
  refine ⟨Fz, ι, M, ρ, S, ?_⟩
  cases e : fa ρ M with
  | fail => rw [e] at q; exact q.elim
  | exc => rw [e] at q; exact q
  | ok d M1 =>
    rw [e] at q
    intro Fz1 H1 ι1 x g1 R1 ra
    cases d with
    | bl k =>
      refine ⟨k, ra.2, ?_⟩
      cases k with
      | false =>
        rw [if_neg Bool.false_ne_true]
        exact ⟨Fz1, ι1, M1, ρ, S.grow g1 R1, Post.grow g1 (show Post _ _ _ _ _ _ _ _ (fb ρ M1) from q)⟩
      | true =>
        rw [if_pos rfl]
        exact Post.now (Post.grow g1 (show Post _ _ _ _ _ _ _ _ (Fl.ok (D.bl true) M1) from q)) R1 ⟨trivial, rfl⟩
    | _ => exact (show False from q).elim)
theorem xe_not (ha : XE X E a fa) : XE X E (.UnaryOp .Not a pos) (eNot fa) := (pe_not ha).imp (by
  rintro σ H Q ⟨Fz, ι, M, ρ, S, q⟩
  unfold eNot bOf at q
  refine ⟨Fz, ι, M, ρ, S, ?_⟩
  cases e : fa ρ M with
  | fail => rw [e] at q; exact q.elim
  | exc => rw [e] at q; exact q
  | ok d M1 =>
    rw [e] at q
    intro Fz1 H1 ι1 x g1 R1 ra
    cases d with
    | bl k => exact ⟨k, ra.2, Post.now (Post.grow g1 (show Post _ _ _ _ _ _ _ _ (Fl.ok (D.bl (!k)) M1) from q)) R1 ⟨trivial, rfl⟩⟩
    | _ => exact (show False from q).elim)
end

/-! ### statements -/
def sNext : SF := fun ρ M => .ok (.nx ρ) M
def sSeq (f g : SF) : SF := fun ρ M => (f ρ M).bind fun w M1 => match w with
  | .nx ρ1 => g ρ1 M1
  | w => .ok w M1
def sIf (c : BF) (f g : SF) : SF := fun ρ M => (c ρ M).bind fun b M1 => if b = true then f ρ M1 else g ρ M1
def sRet (f : EF) : SF := fun ρ M => (f ρ M).bind fun d M1 => .ok (.rt d) M1
def sRetN : SF := fun _ M => .ok (.rt .non) M
def sSet (i : Nat) (f : EF) : SF := fun ρ M => (f ρ M).bind fun d M1 => .ok (.nx (ρ.set i (some d))) M1
def sEx (f : EF) : SF := fun ρ M => (f ρ M).bind fun _ M1 => .ok (.nx ρ) M1
def sBrk : SF := fun ρ M => .ok (.bk ρ) M
def sCnt : SF := fun ρ M => .ok (.ct ρ) M
def sFail : SF := fun _ _ => .fail
def sAug (i : Nat) (op : D → D → Mem → Fl D) (f : EF) : SF := fun ρ M => (eVar i ρ M).bind fun a M0 => (f ρ M0).bind fun b M1 => (op a b M1).bind fun d M2 => .ok (.nx (ρ.set i (some d))) M2
section
variable {X : Cx} {E : XK} {st : Stmt} {rest : List Stmt} {f g : SF} {e c : Expr} {fe : EF} {fc : BF} {pos : Pos} {K : PySem.W.Frag} {a b : List Stmt}
theorem Sim.set {Fz H : Hp} {ι : Nat → Addr} {M : Mem} {ρ : Ro} {σ : L2.St} {d : D} {v : V} (S : Sim K Fz H ι M ρ σ) (i : Nat) (b : bnd M.length d) (r : RepV K Fz ι d v) : Sim K Fz H ι M (ρ.set i (some d)) (σ.set i (some v)) := by
  refine ⟨S.rel, by rw [List.length_set, List.length_set]; exact S.len, fun j d' e => ?_⟩
  by_cases h : j = i
  · subst h
    have hj : j < ρ.length := by
      have := (List.getElem?_eq_some_iff.mp e).1
      rwa [List.length_set] at this
    rw [List.getElem?_set_self hj] at e
    have e : d = d' := Option.some.inj (Option.some.inj e)
    subst e
    exact ⟨b, v, List.getElem?_set_self (by rw [← S.len]; exact hj), r⟩
  · rw [List.getElem?_set_ne (Ne.symm h)] at e
    obtain ⟨b', v', e', r'⟩ := S.slot j d' e
    exact ⟨b', v', by rw [List.getElem?_set_ne (Ne.symm h)]; exact e', r'⟩
theorem Sim.wipe {Fz H : Hp} {ι : Nat → Addr} {M : Mem} {ρ : Ro} {σ : L2.St} (S : Sim K Fz H ι M ρ σ) (i : Nat) : Sim K Fz H ι M (ρ.set i none) (σ.set i none) := by
  refine ⟨S.rel, by rw [List.length_set, List.length_set]; exact S.len, fun j d' e => ?_⟩
  by_cases h : j = i
  · subst h
    have hj : j < ρ.length := by
      have := (List.getElem?_eq_some_iff.mp e).1
      rwa [List.length_set] at this
    rw [List.getElem?_set_self hj] at e
    cases Option.some.inj e
  · rw [List.getElem?_set_ne (Ne.symm h)] at e
    obtain ⟨b', v', e', r'⟩ := S.slot j d' e
    exact ⟨b', v', by rw [List.getElem?_set_ne (Ne.symm h)]; exact e', r'⟩
theorem PostS.nxt {Fz H : Hp} {ι : Nat → Addr} {M : Mem} {ρ : Ro} {σ : L2.St} {D : Ends} (q : PostS K E Fz H ι M.length D (.ok (.nx ρ) M)) (S : Sim K Fz H ι M ρ σ) : D.nx σ H := q Fz H ι σ (Grow.refl _ _ _ _) S
theorem PostS.ret {Fz H : Hp} {ι : Nat → Addr} {M : Mem} {d : MM.D} {v : V} {D : Ends} (q : PostS K E Fz H ι M.length D (.ok (.rt d) M)) (R : Rel K Fz H ι M) (b : bnd M.length d) (r : RepV K Fz ι d v) : D.rt v H := q Fz H ι v (Grow.refl _ _ _ _) R b r
theorem xss_nil : XSs X E [] sNext := pss_nil.imp (by
  rintro D σ H ⟨Fz, ι, M, ρ, S, q⟩
  exact q.nxt S)
theorem seq_w : ∀ D σ H, wS K E (sSeq f g) D σ H → tSeq (wS K E f) (wS K E g) D σ H := by
  rintro D σ H ⟨Fz, ι, M, ρ, S, q⟩
  refine ⟨Fz, ι, M, ρ, S, ?_⟩
  unfold sSeq at q
  cases e : f ρ M with
  | fail => rw [e] at q; exact q
  | exc => rw [e] at q; exact q
  | ok w M1 =>
    rw [e] at q
    cases w with
    | nx ρ1 => exact fun Fz1 H1 ι1 σ1 g1 S1 => ⟨Fz1, ι1, M1, ρ1, S1, PostS.grow g1 (show PostS _ _ _ _ _ _ _ (g ρ1 M1) from q)⟩
    | rt d => exact q
    | bk ρ1 => exact q
    | ct ρ1 => exact q
theorem xss_cons (h1 : XS X E st f) (h2 : XSs X E rest g) : XSs X E (st :: rest) (sSeq f g) := (pss_cons h1 h2).imp seq_w
theorem xss_one (h1 : XS X E st f) : XSs X E [st] f := pss_one h1
theorem xs_pass : XS X E (.Pass pos) sNext := ps_pass.imp (by
  rintro D σ H ⟨Fz, ι, M, ρ, S, q⟩
  exact q.nxt S)
theorem xs_break : XS X E (.Break pos) sBrk := ps_break.imp (by
  rintro D σ H ⟨Fz, ι, M, ρ, S, q⟩
  exact q Fz H ι σ (Grow.refl _ _ _ _) S)
theorem xs_continue : XS X E (.Continue pos) sCnt := ps_continue.imp (by
  rintro D σ H ⟨Fz, ι, M, ρ, S, q⟩
  exact q Fz H ι σ (Grow.refl _ _ _ _) S)
theorem xs_fail : XS X E st sFail := ⟨fun pins s σ H D I h => by
  obtain ⟨_, _, _, _, _, q⟩ := h
  exact q.elim⟩
theorem xss_fail {sts : List Stmt} : XSs X E sts sFail := ⟨fun pins s σ H D I h => by
  obtain ⟨_, _, _, _, _, q⟩ := h
  exact q.elim⟩
theorem xs_expr (he : XE X E e fe) (hs : swapsWith e none pos.line X.env = pure false := by rfl) : XS X E (.Expr e pos) (sEx fe) := (ps_expr he hs).imp (by
  rintro D σ H ⟨Fz, ι, M, ρ, S, q⟩
  exact ⟨Fz, ι, M, ρ, S, q.first fun d M1 Fz1 H1 ι1 x g1 R1 ra q1 => q1.nxt (S.grow g1 R1)⟩)
theorem xs_ret (he : XE X E e fe) : XS X E (.Return (some e) pos) (sRet fe) := (ps_ret he).imp (by
  rintro D σ H ⟨Fz, ι, M, ρ, S, q⟩
  exact ⟨Fz, ι, M, ρ, S, q.first fun d M1 Fz1 H1 ι1 x g1 R1 ra q1 => q1.ret R1 ra.1 ra.2⟩)
theorem xs_retN : XS X E (.Return none pos) sRetN := ps_retN.imp (by
  rintro D σ H ⟨Fz, ι, M, ρ, S, q⟩
  exact q.ret S.rel trivial rfl)
theorem xs_if (hc : XT X E c fc) (ha : XSs X E a f) (hb : XSs X E b g) : XS X E (.If c a b pos) (sIf fc f g) := (ps_if hc ha hb).imp (by
  rintro D σ H ⟨Fz, ι, M, ρ, S, q⟩
  refine ⟨Fz, ι, M, ρ, S, q.first fun d M1 Fz1 H1 ι1 x g1 R1 ra q1 => ?_⟩
  have ra : x = d := ra
  subst ra
  cases x with
  | true =>
    rw [if_pos rfl] at q1 ⊢
    exact ⟨Fz1, ι1, M1, ρ, S.grow g1 R1, q1⟩
  | false =>
    rw [if_neg Bool.false_ne_true] at q1 ⊢
    exact ⟨Fz1, ι1, M1, ρ, S.grow g1 R1, q1⟩)
theorem xs_set {i : Nat} {x : Str} {pos' : Pos} (hN : X.N.Nodup) (he : XE X E e fe) (hi : X.N[i]? = some x := by rfl) (hx : Loc X.env.scope x := by first | exact Or.inl rfl | exact Or.inr rfl) (hs : swapsWith e (some (.Name x pos')) pos.line X.env = pure false := by rfl)
    (hf : X.fn x = true ∨ X.env.scope.names.lookup x = some .local := by first | exact .inl rfl | exact .inr rfl | assumption) : XS X E (.Assign [.Name x pos'] e pos) (sSet i fe) := (ps_set hN hi hx he hs hf).imp (by
  rintro D σ H ⟨Fz, ι, M, ρ, S, q⟩
  exact ⟨Fz, ι, M, ρ, S, q.first fun d M1 Fz1 H1 ι1 x g1 R1 ra q1 => q1.nxt ((S.grow g1 R1).set i ra.1 ra.2)⟩)
theorem xs_aug {i : Nat} {x : Str} {pos' : Pos} {o : Operator} {r : R2} {op : D → D → Mem → Fl D} (hN : X.N.Nodup) (hr : PIp X o r) (ho : OpS X.K E r op) (he : XE X E e fe) (hi : X.N[i]? = some x := by rfl)
    (hx : Loc X.env.scope x := by first | exact Or.inl rfl | exact Or.inr rfl) (hf : X.fn x = true ∨ X.env.scope.names.lookup x = some .local := by first | exact .inl rfl | exact .inr rfl | assumption) :
    XS X E (.AugAssign (.Name x pos') o e pos) (sAug i op fe) := (ps_aug hN hi hx he hr hf).imp (by
  rintro D σ H ⟨Fz, ι, M, ρ, S, q⟩
  unfold sAug eVar at q
  split at q
  · rename_i d hd
    obtain ⟨bd, v, e', rv⟩ := S.slot i d hd
    refine ⟨v, e', Fz, ι, M, ρ, S, ?_⟩
    refine PostS.first (show PostS _ _ _ _ _ _ _ ((fe ρ M).bind _) from q) fun b M1 Fz1 H1 ι1 y g1 R1 rb q1 => ?_
    refine ho Fz1 H1 ι1 M1 d b v y _ R1 (bnd.up g1.le d bd) rb.1 (g1.rep bd rv) rb.2 ?_
    exact q1.first fun z M2 Fz2 H2 ι2 w g2 R2 rz q2 => q2.nxt ((S.grow (g1.trans g2) R2).set i rz.1 rz.2)
  · exact (show False from q).elim)
end
end MM

/-! MMc: operations on data. -/
namespace MM
open PySem PySem.Spec PyProof.Rows L2

/-! ### numbers and texts -/
def addD : D → D → Mem → Fl D
  | .int i, .int j, M => .ok (.int (i + j)) M
  | .str x, .str y, M => if x.length + y.length ≤ 1000000 then .ok (.str (x ++ y)) M else .fail
  | _, _, _ => .fail
def i2 (C : Int → Int → Bool) (g : Int → Int → D) : D → D → Mem → Fl D
  | .int i, .int j, M => if C i j = true then .ok (g i j) M else .fail
  | _, _, _ => .fail
def subD : D → D → Mem → Fl D
  | .int i, .int j, M => .ok (.int (i - j)) M
  | _, _, _ => .fail
def mulD : D → D → Mem → Fl D
  | .int i, .int j, M => if (-18446744073709551616 < i ∧ i < 18446744073709551616) ∨ (-18446744073709551616 < j ∧ j < 18446744073709551616) then .ok (.int (i * j)) M else .fail
  | _, _, _ => .fail
def divD : D → D → Mem → Fl D
  | .int i, .int j, M => if 0 < j ∧ j < 1073741824 then .ok (.int (i / j)) M else .fail
  | _, _, _ => .fail
def modD : D → D → Mem → Fl D
  | .int i, .int j, M => if 0 < j then .ok (.int (i % j)) M else .fail
  | _, _, _ => .fail
def shlD : D → D → Mem → Fl D
  | .int i, .int j, M => if (0 ≤ j ∧ j ≤ 1000000) ∧ i.natAbs < 18446744073709551616 then .ok (.int (i * 2 ^ j.toNat)) M else .fail
  | _, _, _ => .fail
def powD : D → D → Mem → Fl D
  | .int i, .int j, M => if (0 ≤ j ∧ j ≤ 1000000) ∧ i.natAbs < 18446744073709551616 then .ok (.int (i ^ j.toNat)) M else .fail
  | _, _, _ => .fail
def shrD : D → D → Mem → Fl D
  | .int i, .int j, M => if 0 ≤ j then .ok (.int (i / 2 ^ j.toNat)) M else .fail
  | _, _, _ => .fail
def andD : D → D → Mem → Fl D
  | .int i, .int j, M => .ok (.int (Builtin.bitAnd i j)) M
  | _, _, _ => .fail
def orD : D → D → Mem → Fl D
  | .int i, .int j, M => .ok (.int (Builtin.bitOr i j)) M
  | _, _, _ => .fail
def xorD : D → D → Mem → Fl D
  | .int i, .int j, M => .ok (.int (Builtin.bitXor i j)) M
  | _, _, _ => .fail
def notD : D → Mem → Fl D
  | .int i, M => .ok (.int (Builtin.bitNot i)) M
  | _, _ => .fail
def negD : D → Mem → Fl D
  | .int i, M => .ok (.int (-i)) M
  | _, _ => .fail
def ltD : D → D → Mem → Fl D
  | .int i, .int j, M => .ok (.bl (decide (i < j))) M
  | _, _, _ => .fail
def leD : D → D → Mem → Fl D
  | .int i, .int j, M => .ok (.bl (decide (i ≤ j))) M
  | _, _, _ => .fail
def gtD : D → D → Mem → Fl D
  | .int i, .int j, M => .ok (.bl (decide (j < i))) M
  | _, _, _ => .fail
def geD : D → D → Mem → Fl D
  | .int i, .int j, M => .ok (.bl (decide (j ≤ i))) M
  | _, _, _ => .fail
section
variable {X : Cx} {K : PySem.W.Frag} {E : XK}
def rAddA : R2 := fun x y H Q => (∃ i j, x = .int i ∧ y = .int j ∧ Q (.int (i + j)) H) ∨ ∃ i j, x = .str i ∧ y = .str j ∧ i.length + j.length ≤ sizeLine ∧ Q (.str (i ++ j)) H
theorem or_addA : OpR X (binaryOp .Add) rAddA := OpR.or op_add op_add_str
theorem os_add : OpS K E rAddA addD := by
  intro Fz H ι M a b x y Q R ba bb ra rb q
  cases a <;> cases b <;> first
    | exact q.elim
    | exact .inl ⟨_, _, ra, rb, Post.now (a := D.int _) q R ⟨trivial, rfl⟩⟩
    | (rename_i i j
       dsimp only [addD] at q
       by_cases hl : i.length + j.length ≤ 1000000
       · rw [if_pos hl] at q
         exact .inr ⟨_, _, ra, rb, small6 hl, q.now R ⟨trivial, rfl⟩⟩
       · rw [if_neg hl] at q
         exact q.elim)
theorem os_i0 {g : Int → Int → V} {h : Int → Int → D} {op : D → D → Mem → Fl D} (hg : ∀ i j, (∀ K Fz ι, RepV K Fz ι (h i j) (g i j)) ∧ bnd 0 (h i j)) (e : ∀ a b M, op a b M = match a, b with
    | .int i, .int j => .ok (h i j) M
    | _, _ => .fail) : OpS K E (rI0 g) op := by
  intro Fz H ι M a b x y Q R ba bb ra rb q
  rw [e] at q
  cases a <;> cases b <;> first
    | exact q.elim
    | (rename_i i j
       exact ⟨i, j, ra, rb, q.now R ⟨bnd.up (Nat.zero_le _) _ (hg i j).2, (hg i j).1 _ _ _⟩⟩)
theorem os_iC {C : Int → Int → Prop} {c : Int → Int → Prop} [∀ i j, Decidable (c i j)] {g : Int → Int → Int} {op : D → D → Mem → Fl D} (hc : ∀ i j, c i j → C i j) (e : ∀ a b M, op a b M = match a, b with
    | .int i, .int j => if c i j then .ok (.int (g i j)) M else .fail
    | _, _ => .fail) : OpS K E (rI C fun i j => .int (g i j)) op := by
  intro Fz H ι M a b x y Q R ba bb ra rb q
  rw [e] at q
  cases a <;> cases b <;> first
    | exact q.elim
    | (rename_i i j
       dsimp only at q
       split at q
       · rename_i hh
         exact ⟨i, j, ra, rb, hc i j hh, q.now R ⟨trivial, rfl⟩⟩
       · exact q.elim)
theorem os_sub : OpS K E (rI0 fun i j => .int (i - j)) subD := os_i0 (h := fun i j => .int (i - j)) (fun _ _ => ⟨fun _ _ _ => rfl, trivial⟩) (fun a b M => by cases a <;> cases b <;> rfl)
theorem os_and : OpS K E (rI0 fun i j => .int (Builtin.bitAnd i j)) andD := os_i0 (h := fun i j => .int (Builtin.bitAnd i j)) (fun _ _ => ⟨fun _ _ _ => rfl, trivial⟩) (fun a b M => by cases a <;> cases b <;> rfl)
theorem os_or : OpS K E (rI0 fun i j => .int (Builtin.bitOr i j)) orD := os_i0 (h := fun i j => .int (Builtin.bitOr i j)) (fun _ _ => ⟨fun _ _ _ => rfl, trivial⟩) (fun a b M => by cases a <;> cases b <;> rfl)
theorem os_xor : OpS K E (rI0 fun i j => .int (Builtin.bitXor i j)) xorD := os_i0 (h := fun i j => .int (Builtin.bitXor i j)) (fun _ _ => ⟨fun _ _ _ => rfl, trivial⟩) (fun a b M => by cases a <;> cases b <;> rfl)
theorem os_lt : OpS K E (rI0 fun i j => .bl (decide (i < j))) ltD := os_i0 (h := fun i j => .bl (decide (i < j))) (fun _ _ => ⟨fun _ _ _ => rfl, trivial⟩) (fun a b M => by cases a <;> cases b <;> rfl)
theorem os_le : OpS K E (rI0 fun i j => .bl (decide (i ≤ j))) leD := os_i0 (h := fun i j => .bl (decide (i ≤ j))) (fun _ _ => ⟨fun _ _ _ => rfl, trivial⟩) (fun a b M => by cases a <;> cases b <;> rfl)
theorem os_gt : OpS K E (rI0 fun i j => .bl (decide (j < i))) gtD := os_i0 (h := fun i j => .bl (decide (j < i))) (fun _ _ => ⟨fun _ _ _ => rfl, trivial⟩) (fun a b M => by cases a <;> cases b <;> rfl)
theorem os_ge : OpS K E (rI0 fun i j => .bl (decide (j ≤ i))) geD := os_i0 (h := fun i j => .bl (decide (j ≤ i))) (fun _ _ => ⟨fun _ _ _ => rfl, trivial⟩) (fun a b M => by cases a <;> cases b <;> rfl)
theorem os_mul : OpS K E (rI CMul fun i j => .int (i * j)) mulD := os_iC (c := fun i j => (-18446744073709551616 < i ∧ i < 18446744073709551616) ∨ (-18446744073709551616 < j ∧ j < 18446744073709551616)) (fun i j h => by unfold CMul; simpa using h) (fun a b M => by cases a <;> cases b <;> rfl)
theorem os_div : OpS K E (rI CDiv fun i j => .int (i / j)) divD := os_iC (c := fun i j => 0 < j ∧ j < 1073741824) (fun i j h => h) (fun a b M => by cases a <;> cases b <;> rfl)
theorem os_mod : OpS K E (rI (fun _ j => 0 < j) fun i j => .int (i % j)) modD := os_iC (c := fun i j => 0 < j) (fun i j h => h) (fun a b M => by cases a <;> cases b <;> rfl)
theorem os_shl : OpS K E (rI CPow fun i j => .int (i * 2 ^ j.toNat)) shlD := os_iC (c := fun i j => (0 ≤ j ∧ j ≤ 1000000) ∧ i.natAbs < 18446744073709551616) (fun i j h => ⟨h.1.1, h.1.2, by simpa using h.2⟩) (fun a b M => by cases a <;> cases b <;> rfl)
theorem os_pow : OpS K E (rI CPow fun i j => .int (i ^ j.toNat)) powD := os_iC (c := fun i j => (0 ≤ j ∧ j ≤ 1000000) ∧ i.natAbs < 18446744073709551616) (fun i j h => ⟨h.1.1, h.1.2, by simpa using h.2⟩) (fun a b M => by cases a <;> cases b <;> rfl)
theorem os_shr : OpS K E (rI (fun _ j => 0 ≤ j) fun i j => .int (i / 2 ^ j.toNat)) shrD := os_iC (c := fun i j => 0 ≤ j) (fun i j h => h) (fun a b M => by cases a <;> cases b <;> rfl)
theorem us_not : UnS K E (rU fun i => .int (Builtin.bitNot i)) notD := by
  intro Fz H ι M a x Q R ba ra q
  cases a <;> first
    | exact q.elim
    | exact ⟨_, ra, q.now R ⟨trivial, rfl⟩⟩
theorem us_neg : UnS K E (rU fun i => .int (-i)) negD := by
  intro Fz H ι M a x Q R ba ra q
  cases a <;> first
    | exact q.elim
    | exact ⟨_, ra, q.now R ⟨trivial, rfl⟩⟩
end

/-! ### what a list, a tuple holds -/
/-- a changing list as it stands -/
def viewD (M : Mem) : D → D
  | .ptr k => match M[k]? with
    | some (.lst l) => .lst l
    | _ => .ptr k
  | d => d
/-- the items of a list or tuple -/
def itemsD (M : Mem) : D → Option (List D)
  | .tup l => some l
  | .lst l => some l
  | .scr l => some l
  | .ptr k => match M[k]? with
    | some (.lst l) => some l
    | _ => none
  | _ => none
section
variable {X : Cx} {K : PySem.W.Frag} {E : XK} {Fz H : Hp} {ι : Nat → Addr} {M : Mem} {a : D} {l : List D} {x : V}
theorem items_ok (R : Rel K Fz H ι M) (ba : bnd M.length a) (ra : RepV K Fz ι a x) (h : itemsD M a = some l) :
    bndL M.length l ∧ ∃ p vs, x = .ref p ∧ (SqL K H p vs ∨ SqT K H p vs) ∧ RepL K Fz ι l vs ∧ ((∃ l', a = .tup l') ∨ SqL K H p vs) := by
  cases a with
  | tup l' =>
    have h : l' = l := Option.some.inj h
    subst h
    obtain ⟨p, vs, e, s, r⟩ := ra
    exact ⟨ba, p, vs, e, .inr (SqT.up R.fz s), r, .inl ⟨l', rfl⟩⟩
  | lst l' =>
    have h : l' = l := Option.some.inj h
    subst h
    obtain ⟨p, vs, e, s, r⟩ := ra
    exact ⟨ba, p, vs, e, .inl (SqL.of (R.fz _ _ s)), r, .inr (SqL.of (R.fz _ _ s))⟩
  | scr l' =>
    have h : l' = l := Option.some.inj h
    subst h
    obtain ⟨p, vs, e, s, r⟩ := ra
    exact ⟨ba, p, vs, e, .inl (SqL.up R.fz s), r, .inr (SqL.up R.fz s)⟩
  | ptr k =>
    unfold itemsD at h
    dsimp only at h
    split at h
    · rename_i l' e
      have h : l' = l := Option.some.inj h
      subst h
      obtain ⟨_, vs, e1, r⟩ := R.ob k _ e
      exact ⟨R.wf k _ e, ι k, vs, ra, .inl (SqL.of e1), r, .inr (SqL.of e1)⟩
    · cases h
  | _ => cases h
end

/-! ### == -/
mutual
def toPy : D → Option PyData
  | .non => some .none
  | .bl b => some (.bool b)
  | .int i => some (.int i)
  | .str x => some (.str x)
  | .tup l => (toPyL l).map .tuple
  | .lst l => (toPyL l).map .list
  | .scr l => (toPyL l).map .list
  | .ptr _ => none
def toPyL : List D → Option (List PyData)
  | [] => some []
  | d :: l => (toPy d).bind fun p => (toPyL l).map fun r => p :: r
end
mutual
theorem toPy_dp {K : PySem.W.Frag} {Fz H : Hp} {ι : Nat → Addr} (h : ∀ a o, Fz a = some o → H a = some o) : ∀ (d : D) (p : PyData) (v : V), toPy d = some p → RepV K Fz ι d v → Dp K H v p
  | .non, _, _, e, r => by
    cases e
    have r : _ = V.non := r
    subst r
    exact .non
  | .bl b, _, _, e, r => by
    cases e
    have r : _ = V.bl b := r
    subst r
    exact .bl b
  | .int i, _, _, e, r => by
    cases e
    have r : _ = V.int i := r
    subst r
    exact .int i
  | .str x, _, _, e, r => by
    cases e
    have r : _ = V.str x := r
    subst r
    exact .str x
  | .tup l, _, _, e, r => by
    obtain ⟨a, vs, e1, s, q⟩ := r
    subst e1
    rw [toPy] at e
    cases el : toPyL l with
    | none => rw [el] at e; cases e
    | some ps =>
      rw [el] at e
      cases e
      exact .tup (SqT.up h s) (toPyL_dp h l ps vs el q)
  | .lst l, _, _, e, r => by
    obtain ⟨a, vs, e1, s, q⟩ := r
    subst e1
    rw [toPy] at e
    cases el : toPyL l with
    | none => rw [el] at e; cases e
    | some ps =>
      rw [el] at e
      cases e
      exact .lst (SqL.of (h _ _ s)) (toPyL_dp h l ps vs el q)
  | .scr l, _, _, e, r => by
    obtain ⟨a, vs, e1, s, q⟩ := r
    subst e1
    rw [toPy] at e
    cases el : toPyL l with
    | none => rw [el] at e; cases e
    | some ps =>
      rw [el] at e
      cases e
      exact .lst (SqL.up h s) (toPyL_dp h l ps vs el q)
  | .ptr _, _, _, e, _ => by cases e
theorem toPyL_dp {K : PySem.W.Frag} {Fz H : Hp} {ι : Nat → Addr} (h : ∀ a o, Fz a = some o → H a = some o) : ∀ (l : List D) (ps : List PyData) (vs : List V), toPyL l = some ps → RepL K Fz ι l vs → DpAll K H vs ps
  | [], _, _, e, r => by
    cases e
    have r : _ = [] := r
    subst r
    exact .nil
  | d :: l, _, _, e, r => by
    obtain ⟨v, r', e1, q, q'⟩ := r
    subst e1
    rw [toPyL] at e
    cases ed : toPy d with
    | none => rw [ed] at e; cases e
    | some p =>
      cases el : toPyL l with
      | none => rw [ed, el] at e; cases e
      | some ps =>
        rw [ed, el] at e
        cases e
        exact .cons (toPy_dp h d p v ed q) (toPyL_dp h l ps r' el q')
end
/-- == of two plain ones -/
def eqS : D → D → Option Bool
  | .non, .non => some true | .non, .int _ => some false | .int _, .non => some false | .non, .bl _ => some false | .bl _, .non => some false | .non, .str _ => some false | .str _, .non => some false
  | .int i, .int j => some (decide (i = j)) | .bl i, .bl j => some (decide (i = j)) | .str i, .str j => some (decide (i = j))
  | .int _, .str _ => some false | .str _, .int _ => some false | .bl _, .str _ => some false | .str _, .bl _ => some false
  | _, _ => none
def eqG (a b : D) (M : Mem) : Option Bool := match toPy (viewD M a), toPy (viewD M b) with
  | some p, some q => if SeqAt.shaped p = true ∧ SeqAt.shaped q = true then some (PyData.eqv p q) else none
  | _, _ => none
def eqD (a b : D) (M : Mem) : Fl D := match eqS a b with
  | some k => .ok (.bl k) M
  | none => match eqG a b M with
    | some k => .ok (.bl k) M
    | none => .fail
def neD (a b : D) (M : Mem) : Fl D := match eqS a b with
  | some k => .ok (.bl (!k)) M
  | none => match eqG a b M with
    | some k => .ok (.bl (!k)) M
    | none => .fail
section
variable {X : Cx} {K : PySem.W.Frag} {E : XK}
theorem view_dp {Fz H : Hp} {ι : Nat → Addr} {M : Mem} {a : D} {x : V} {p : PyData} (R : Rel K Fz H ι M) (ra : RepV K Fz ι a x) (h : toPy (viewD M a) = some p) : Dp K H x p := by
  cases a with
  | ptr k =>
    unfold viewD at h
    dsimp only at h
    split at h
    · rename_i l e
      obtain ⟨_, vs, e1, r⟩ := R.ob k _ e
      have ra : x = .ref (ι k) := ra
      subst ra
      rw [toPy] at h
      cases el : toPyL l with
      | none => rw [el] at h; cases h
      | some ps =>
        rw [el] at h
        cases h
        exact .lst (SqL.of e1) (toPyL_dp R.fz l ps vs el r)
    · cases h
  | _ => exact toPy_dp R.fz _ _ _ h ra
theorem eqS_ok {Fz : Hp} {ι : Nat → Addr} {a b : D} {x y : V} {k : Bool} (ra : RepV K Fz ι a x) (rb : RepV K Fz ι b y) (h : eqS a b = some k) : scal x y = true ∧ decide (x = y) = k := by
  cases a <;> cases b <;> first
    | (cases h; done)
    | (have ra : x = _ := ra
       have rb : y = _ := rb
       subst ra rb
       have h := Option.some.inj h
       subst h
       exact ⟨rfl, by simp⟩)
def rEqA (K : PySem.W.Frag) : R2 := fun x y H Q => rEq x y H Q ∨ rEqD K x y H Q
def rNeA (K : PySem.W.Frag) : R2 := fun x y H Q => rNe x y H Q ∨ rNeD K x y H Q
theorem or_eqA (hu : X.A.units + 64 < cLine) : OpR X (compareOp .Eq) (rEqA X.K) := OpR.or op_eq (op_eqD hu)
theorem or_neA (hu : X.A.units + 64 < cLine) : OpR X (compareOp .NotEq) (rNeA X.K) := OpR.or op_ne (op_neD hu)
theorem os_eq : OpS K E (rEqA K) eqD := by
  intro Fz H ι M a b x y Q R ba bb ra rb q
  unfold eqD at q
  cases e : eqS a b with
  | some k =>
    rw [e] at q
    obtain ⟨h1, h2⟩ := eqS_ok ra rb e
    exact .inl ⟨h1, by rw [h2]; exact q.now R ⟨trivial, rfl⟩⟩
  | none =>
    rw [e] at q
    cases e2 : eqG a b M with
    | none => rw [e2] at q; exact q.elim
    | some k =>
      rw [e2] at q
      unfold eqG at e2
      split at e2
      · rename_i p p' h1 h2
        split at e2
        · rename_i hs
          have e2 := Option.some.inj e2
          subst e2
          exact .inr ⟨p, p', view_dp R ra h1, view_dp R rb h2, hs.1, hs.2, q.now R ⟨trivial, rfl⟩⟩
        · cases e2
      · cases e2
theorem os_ne : OpS K E (rNeA K) neD := by
  intro Fz H ι M a b x y Q R ba bb ra rb q
  unfold neD at q
  cases e : eqS a b with
  | some k =>
    rw [e] at q
    obtain ⟨h1, h2⟩ := eqS_ok ra rb e
    exact .inl ⟨h1, by rw [h2]; exact q.now R ⟨trivial, rfl⟩⟩
  | none =>
    rw [e] at q
    cases e2 : eqG a b M with
    | none => rw [e2] at q; exact q.elim
    | some k =>
      rw [e2] at q
      unfold eqG at e2
      split at e2
      · rename_i p p' h1 h2
        split at e2
        · rename_i hs
          have e2 := Option.some.inj e2
          subst e2
          exact .inr ⟨p, p', view_dp R ra h1, view_dp R rb h2, hs.1, hs.2, q.now R ⟨trivial, rfl⟩⟩
        · cases e2
      · cases e2
/-! ### is None -/
def isNonD (a b : D) (M : Mem) : Fl D := match a, b with
  | .non, .non => .ok (.bl true) M
  | _, .non => .ok (.bl false) M
  | _, _ => .fail
def isNotD (a b : D) (M : Mem) : Fl D := match a, b with
  | .non, .non => .ok (.bl false) M
  | _, .non => .ok (.bl true) M
  | _, _ => .fail
theorem nonV {Fz : Hp} {ι : Nat → Addr} : ∀ {a : D} {x : V}, RepV K Fz ι a x → (x = .non ↔ a = .non)
  | .non, _, r => by
    have r : _ = V.non := r
    simp [r]
  | .bl b, _, r => by
    have r : _ = V.bl b := r
    simp [r]
  | .int b, _, r => by
    have r : _ = V.int b := r
    simp [r]
  | .str b, _, r => by
    have r : _ = V.str b := r
    simp [r]
  | .tup b, _, r => by
    obtain ⟨_, _, r, _⟩ := r
    simp [r]
  | .lst b, _, r => by
    obtain ⟨_, _, r, _⟩ := r
    simp [r]
  | .scr b, _, r => by
    obtain ⟨_, _, r, _⟩ := r
    simp [r]
  | .ptr b, _, r => by
    have r : _ = V.ref (ι b) := r
    simp [r]
theorem os_isN : OpS K E (fun x y H Q => y = .non ∧ Q (.bl (decide (x = .non))) H) isNonD := by
  intro Fz H ι M a b x y Q R ba bb ra rb q
  cases b with
  | non =>
    refine ⟨rb, ?_⟩
    by_cases h : a = .non
    · subst h
      have ra : x = _ := ra
      subst ra
      exact q.now R ⟨trivial, rfl⟩
    · have hx : ¬ x = .non := fun e => h ((nonV ra).mp e)
      rw [decide_eq_false hx]
      cases a <;> first
        | exact absurd rfl h
        | exact q.now R ⟨trivial, rfl⟩
  | _ => cases a <;> exact q.elim
theorem os_notN : OpS K E (fun x y H Q => y = .non ∧ Q (.bl (!decide (x = .non))) H) isNotD := by
  intro Fz H ι M a b x y Q R ba bb ra rb q
  cases b with
  | non =>
    refine ⟨rb, ?_⟩
    by_cases h : a = .non
    · subst h
      have ra : x = _ := ra
      subst ra
      exact q.now R ⟨trivial, rfl⟩
    · have hx : ¬ x = .non := fun e => h ((nonV ra).mp e)
      rw [decide_eq_false hx]
      cases a <;> first
        | exact absurd rfl h
        | exact q.now R ⟨trivial, rfl⟩
  | _ => cases a <;> exact q.elim
end

/-! ### items -/
def ixD (a i : D) (M : Mem) : Fl D := match i with
  | .int k => match a with
    | .str z => if z.length ≤ 1000000 then match atI z.cps.toList k with
        | some c => .ok (.str ⟨#[c]⟩) M
        | none => .fail
      else .fail
    | a => match itemsD M a with
      | some l => match atI l k with
        | some d => .ok d M
        | none => .fail
      | none => .fail
  | _ => .fail
section
variable {X : Cx} {K : PySem.W.Frag} {E : XK}
theorem RepL.atI {Fz : Hp} {ι : Nat → Addr} {l : List D} {vs : List V} {k : Int} {d : D} (r : RepL K Fz ι l vs) (h : L2.atI l k = some d) : ∃ v, L2.atI vs k = some v ∧ RepV K Fz ι d v := by
  unfold L2.atI at h ⊢
  rw [← r.len]
  cases e : ixN l.length k with
  | none => rw [e] at h; cases h
  | some j =>
    rw [e] at h
    exact RepL.get r h
theorem bndL_atI {n : Nat} {l : List D} {k : Int} {d : D} (b : bndL n l) (h : L2.atI l k = some d) : bnd n d := by
  unfold L2.atI at h
  cases e : ixN l.length k with
  | none => rw [e] at h; cases h
  | some j =>
    rw [e] at h
    exact bndL_get b h
theorem os_ix : OpS K E (rIx K) ixD := by
  intro Fz H ι M a b x y Q R ba bb ra rb q
  unfold ixD at q
  cases b with
  | int k =>
    dsimp only at q
    have seq : ∀ {l}, itemsD M a = some l → Post K E Fz H ι M.length (RD K) Q (match L2.atI l k with
        | some d => .ok d M
        | none => .fail) → rIx K x y H Q := fun {l} e q => by
      obtain ⟨bl, p, vs, ex, hs, rl, hl⟩ := items_ok R ba ra e
      cases e2 : L2.atI l k with
      | none => rw [e2] at q; exact q.elim
      | some d =>
        rw [e2] at q
        obtain ⟨v, hv, rv⟩ := rl.atI e2
        have fin := q.now R ⟨bndL_atI bl e2, rv⟩
        rcases hs with hs | hs
        · exact .inl ⟨p, vs, k, v, ex, rb, hs, hv, fin⟩
        · exact .inr (.inl ⟨p, vs, k, v, ex, rb, hs, hv, fin⟩)
    cases a with
    | str z =>
      dsimp only at q
      split at q
      · rename_i hz
        cases e2 : L2.atI z.cps.toList k with
        | none => rw [e2] at q; exact q.elim
        | some c =>
          rw [e2] at q
          exact .inr (.inr ⟨z, k, c, ra, rb, small6 hz, e2, q.now R ⟨trivial, rfl⟩⟩)
      · exact q.elim
    | tup l' => exact seq (l := l') rfl q
    | lst l' => exact seq (l := l') rfl q
    | scr l' => exact seq (l := l') rfl q
    | ptr j =>
      dsimp only at q
      cases e : itemsD M (.ptr j) with
      | none => rw [e] at q; exact q.elim
      | some l => rw [e] at q; exact seq e q
    | _ => exact q.elim
  | _ => exact q.elim
end

/-! ### len, min, max, isinstance -/
def lenD (l : List D) (M : Mem) : Fl D := match l with
  | [.str z] => if z.length ≤ 1000000 then .ok (.int z.length) M else .fail
  | [a] => match itemsD M a with
    | some l => .ok (.int l.length) M
    | none => .fail
  | _ => .fail
section
variable {X : Cx} {K : PySem.W.Frag} {E : XK}
theorem CallR.or {f : Value} {r r' : List V → Hp → VK → Prop} (h : CallR X f r) (h' : CallR X f r') : CallR X f (fun x H Q => r x H Q ∨ r' x H Q) := by
  intro pins s σ H x u Q I rx q
  rcases q with q | q
  · exact h pins s σ H x u Q I rx q
  · exact h' pins s σ H x u Q I rx q
theorem RepL.one {Fz : Hp} {ι : Nat → Addr} {a : D} {vs : List V} (r : RepL K Fz ι [a] vs) : ∃ x, vs = [x] ∧ RepV K Fz ι a x := by
  obtain ⟨v, r', e, q, q'⟩ := r
  have q' : r' = [] := q'
  subst q'
  exact ⟨v, e, q⟩
theorem RepL.two {Fz : Hp} {ι : Nat → Addr} {a b : D} {vs : List V} (r : RepL K Fz ι [a, b] vs) : ∃ x y, vs = [x, y] ∧ RepV K Fz ι a x ∧ RepV K Fz ι b y := by
  obtain ⟨v, r', e, q, q'⟩ := r
  obtain ⟨y, e', q2⟩ := q'.one
  subst e'
  exact ⟨v, y, e, q, q2⟩
def rLenA (K : PySem.W.Frag) : List V → Hp → VK → Prop := fun xs H Q => (∃ p ys, xs = [.ref p] ∧ (SqL K H p ys ∨ SqT K H p ys) ∧ Q (.int ys.length) H) ∨ ∃ z, xs = [.str z] ∧ z.length ≤ sizeLine ∧ Q (.int z.length) H
theorem cr_lenA : CallR X (.builtin "len") (rLenA X.K) := CallR.or call_len_seq call_len_str
theorem cs_len : CaS K E (rLenA K) lenD := by
  intro Fz H ι M l vs Q R b r q
  unfold lenD at q
  have seq : ∀ {a l'}, l = [a] → itemsD M a = some l' → Post K E Fz H ι M.length (RD K) Q (.ok (.int l'.length) M) → rLenA K vs H Q := fun {a l'} el e q2 => by
    rw [el] at r b
    obtain ⟨x, ev, rx⟩ := r.one
    obtain ⟨bl, p, ws, ex, hs, rl, hl⟩ := items_ok R b.1 rx e
    subst ev ex
    exact .inl ⟨p, ws, rfl, hs, by rw [← rl.len]; exact q2.now R ⟨trivial, rfl⟩⟩
  split at q
  · rename_i z
    split at q
    · rename_i hz
      obtain ⟨x, ev, rx⟩ := r.one
      have rx : x = V.str z := rx
      subst ev rx
      exact .inr ⟨z, rfl, small6 hz, q.now R ⟨trivial, rfl⟩⟩
    · exact q.elim
  · rename_i a _
    cases e : itemsD M a with
    | some l' => rw [e] at q; exact seq rfl e q
    | none => rw [e] at q; exact q.elim
  · exact q.elim
def minD (l : List D) (M : Mem) : Fl D := match l with
  | [.int i, .int j] => .ok (.int (if j < i then j else i)) M
  | _ => .fail
def maxD (l : List D) (M : Mem) : Fl D := match l with
  | [.int i, .int j] => .ok (.int (if j > i then j else i)) M
  | _ => .fail
theorem cs_min2 : CaS K E (fun xs H Q => ∃ i j, xs = [.int i, .int j] ∧ Q (.int (if j < i then j else i)) H) minD := by
  intro Fz H ι M l vs Q R b r q
  unfold minD at q
  split at q
  · rename_i i j
    obtain ⟨x, y, ev, rx, ry⟩ := r.two
    have rx : x = V.int i := rx
    have ry : y = V.int j := ry
    subst ev rx ry
    exact ⟨i, j, rfl, q.now R ⟨trivial, rfl⟩⟩
  · exact q.elim
theorem cs_max2 : CaS K E (fun xs H Q => ∃ i j, xs = [.int i, .int j] ∧ Q (.int (if j > i then j else i)) H) maxD := by
  intro Fz H ι M l vs Q R b r q
  unfold maxD at q
  split at q
  · rename_i i j
    obtain ⟨x, y, ev, rx, ry⟩ := r.two
    have rx : x = V.int i := rx
    have ry : y = V.int j := ry
    subst ev rx ry
    exact ⟨i, j, rfl, q.now R ⟨trivial, rfl⟩⟩
  · exact q.elim
def strD (l : List D) (M : Mem) : Fl D := match l with
  | [.int i] => if i.natAbs.log2 < 1920 then .ok (.str (toString i)) M else .fail
  | _ => .fail
theorem cs_str : CaS K E (fun xs H Q => ∃ i, xs = [.int i] ∧ i.natAbs.log2 < 1920 ∧ Q (.str (toString i)) H) strD := by
  intro Fz H ι M l vs Q R b r q
  unfold strD at q
  split at q
  · rename_i i
    split at q
    · rename_i hi
      obtain ⟨x, ev, rx⟩ := r.one
      have rx : x = V.int i := rx
      subst ev rx
      exact ⟨i, rfl, hi, q.now R ⟨trivial, rfl⟩⟩
    · exact q.elim
  · exact q.elim
/-- the built-in type of a value -/
def tyD (M : Mem) : D → Option String
  | .non => some "NoneType" | .bl _ => some "bool" | .int _ => some "int" | .str _ => some "str" | .tup _ => none | .lst _ => some "list" | .scr _ => none
  | .ptr k => match M[k]? with
    | some (.lst _) => some "list"
    | some (.dK _) => some "dict"
    | some (.dT _) => some "dict"
    | _ => none
/-- isinstance(x, T), T a built-in type -/
def isiD (T : String) (a : D) (M : Mem) : Fl D := match tyD M a with
  | some t => match kitB t T with
    | some b => .ok (.bl b) M
    | none => .fail
  | none => match a with
    | .tup _ => match kitB "tuple" T with
      | some b => .ok (.bl b) M
      | none => .fail
    | _ => .fail
theorem tyD_ok {Fz H : Hp} {ι : Nat → Addr} {M : Mem} {a : D} {x : V} {t : String} (R : Rel K Fz H ι M) (ra : RepV K Fz ι a x) (h : tyD M a = some t) : TyX K H x (.type t) := by
  cases a with
  | ptr k =>
    unfold tyD at h
    dsimp only at h
    have ra : x = _ := ra
    subst ra
    split at h
    · rename_i l e
      have h := Option.some.inj h
      subst h
      obtain ⟨_, vs, e1, _⟩ := R.ob k _ e
      exact .base (.lst e1)
    · rename_i l e
      have h := Option.some.inj h
      subst h
      obtain ⟨_, vs, e1, _⟩ := R.ob k _ e
      exact .base (.dK e1)
    · rename_i l e
      have h := Option.some.inj h
      subst h
      obtain ⟨_, vs, e1, _⟩ := R.ob k _ e
      exact .base (.dT e1)
    · cases h
  | lst l =>
    have h := Option.some.inj h
    subst h
    obtain ⟨p, vs, e, s, _⟩ := ra
    subst e
    exact .base (.lst (R.fz _ _ s))
  | tup l => cases h
  | scr l => cases h
  | non =>
    have h := Option.some.inj h
    have ra : x = _ := ra
    subst h ra
    exact .base .non
  | bl b =>
    have h := Option.some.inj h
    have ra : x = _ := ra
    subst h ra
    exact .base (.bl b)
  | int b =>
    have h := Option.some.inj h
    have ra : x = _ := ra
    subst h ra
    exact .base (.int b)
  | str b =>
    have h := Option.some.inj h
    have ra : x = _ := ra
    subst h ra
    exact .base (.str b)
theorem tup_tyX {H : Hp} {p : Addr} {vs : List V} (h : SqT K H p vs) : TyX K H (.ref p) (.type "tuple") := by
  rcases h with (h | ⟨o, h⟩) | ⟨o, its, n, h, c, _⟩
  · exact .base (.tup h)
  · exact .fTuple h
  · exact .kTuple h c
theorem xe_isi {a : Expr} {T : Str} {n : String} {p p2 pos : Pos} {fa : EF} (ha : XE X E a fa) (hm : X.mg "isinstance" = none) (hT : X.mg T = none) (hv : bootBuiltins T = some (.type n)) (hg : Gl X "isinstance" := by rfl) (hgT : Gl X T := by rfl) (hb : bootBuiltins "isinstance" = some (.builtin "isinstance") := by decide +kernel)
    (hn : T ≠ "__name__" := by decide) (hd : (T == ("__debug__" : Str)) = false := by decide)
    (he : starEach [a, .Name T p2] X.env = (false, eval a X.env) :: starEach [.Name T p2] X.env := by rfl) (hs : starEach [.Name T p2] X.env = (false, eval (.Name T p2) X.env) :: starEach [] X.env := by rfl) (hpl : (backTo pos (starEach [.Name T p2] X.env)).any (·.1) = false := by rfl) :
    XE X E (.Call (.Name "isinstance" p) [a, .Name T p2] [] pos) (eUn (isiD n) fa) := by
  refine (pe_callB call_isi hg hm hb (pa_cons ha (pa_cons (pe_bltn (v := .ty n) hgT hT hv rfl hn hd) pa_nil hs) he) (by decide) (by decide) he hpl).imp ?_
  rintro σ H Q ⟨Fz, ι, M, ρ, S, q⟩
  refine ⟨Fz, ι, M, ρ, S, q.first fun a M1 Fz1 H1 ι1 x g1 R1 ra q1 => ?_⟩
  unfold isiD at q1
  cases e : tyD M1 a with
  | some t =>
    rw [e] at q1
    dsimp only at q1
    cases e2 : kitB t n with
    | none => rw [e2] at q1; exact q1.elim
    | some b =>
      rw [e2] at q1
      exact ⟨x, .ty n, .type t, .type n, b, rfl, .ty n, tyD_ok R1 ra.2 e, kit_ty e2, q1.now R1 ⟨trivial, rfl⟩⟩
  | none =>
    rw [e] at q1
    cases a with
    | tup l =>
      dsimp only at q1
      cases e2 : kitB "tuple" n with
      | none => rw [e2] at q1; exact q1.elim
      | some b =>
        rw [e2] at q1
        obtain ⟨p, vs, ex, hs, _⟩ := ra.2
        subst ex
        exact ⟨.ref p, .ty n, .type "tuple", .type n, b, rfl, .ty n, tup_tyX (SqT.up R1.fz hs), kit_ty e2, q1.now R1 ⟨trivial, rfl⟩⟩
    | _ => exact q1.elim
end
end MM

/-! MMd: targets, what is walked, loops, comprehensions, methods, slices. -/
namespace MM
open PySem PySem.Spec PyProof.Rows L2

/-! ### targets -/
abbrev GF := D → Ro → Option Ro
abbrev GsF := List D → Ro → Option Ro
/-- the slots vs alone have changed -/
def Off (vs : List Nat) (σ σ' : L2.St) : Prop := σ'.length = σ.length ∧ ∀ j, j ∉ vs → σ'[j]? = σ[j]?
theorem Off.refl (vs : List Nat) (σ : L2.St) : Off vs σ σ := ⟨rfl, fun _ _ => rfl⟩
theorem Off.trans {a b : List Nat} {σ σ1 σ2 : L2.St} (h : Off a σ σ1) (k : Off b σ1 σ2) : Off (a ++ b) σ σ2 :=
  ⟨k.1.trans h.1, fun j hj => by
    rw [List.mem_append, not_or] at hj
    exact (k.2 j hj.2).trans (h.2 j hj.1)⟩
theorem Off.set (i : Nat) (σ : L2.St) (x : Option V) : Off [i] σ (σ.set i x) :=
  ⟨by rw [List.length_set], fun j hj => List.getElem?_set_ne fun z => hj (by rw [z]; exact List.mem_singleton.mpr rfl)⟩
theorem wipe_get : ∀ (vs : List Nat) (σ : L2.St) (j : Nat), (L2.wipe σ vs)[j]? = if j ∈ vs then (if j < σ.length then some none else none) else σ[j]?
  | [], σ, j => by simp [L2.wipe]
  | v :: vs, σ, j => by
    unfold L2.wipe
    by_cases h : v = j
    · subst h
      rw [if_pos List.mem_cons_self]
      by_cases hl : v < σ.length
      · rw [if_pos hl, List.getElem?_set_self (by rw [wipe_length]; exact hl)]
      · rw [if_neg hl, List.getElem?_eq_none (by rw [List.length_set, wipe_length]; omega)]
    · rw [List.getElem?_set_ne h, wipe_get vs σ j]
      by_cases hm : j ∈ vs
      · rw [if_pos hm, if_pos (List.mem_cons_of_mem _ hm)]
      · rw [if_neg hm, if_neg (fun z => (List.mem_cons.mp z).elim (fun e => h e.symm) hm)]
theorem Off.wipe {vs : List Nat} {σ σ' : L2.St} (h : Off vs σ σ') : L2.wipe σ' vs = L2.wipe σ vs := by
  refine List.ext_getElem? fun j => ?_
  rw [wipe_get, wipe_get, h.1]
  by_cases hm : j ∈ vs
  · rw [if_pos hm, if_pos hm]
  · rw [if_neg hm, if_neg hm]
    exact h.2 j hm
theorem Off.of_wipe (vs : List Nat) (σ : L2.St) : Off vs σ (L2.wipe σ vs) :=
  ⟨wipe_length σ vs, fun j hj => by rw [wipe_get, if_neg hj]⟩
def wT (K : PySem.W.Frag) (vs : List Nat) (g : GF) : TG := fun v σ H Q => ∃ Fz ι M ρ d ρ', Sim K Fz H ι M ρ σ ∧ bnd M.length d ∧ RepV K Fz ι d v ∧ g d ρ = some ρ' ∧ ∀ σ', Sim K Fz H ι M ρ' σ' → Off vs σ σ' → Q σ' H
def wTs (K : PySem.W.Frag) (vs : List Nat) (g : GsF) : TGs := fun v σ H Q => ∃ Fz ι M ρ d ρ', Sim K Fz H ι M ρ σ ∧ bndL M.length d ∧ RepL K Fz ι d v ∧ g d ρ = some ρ' ∧ ∀ σ', Sim K Fz H ι M ρ' σ' → Off vs σ σ' → Q σ' H
theorem _root_.L2.PGs.imp {X : Cx} {e : List Expr} {t t' : TGs} (h : PGs X e t) (i : ∀ v σ H Q, t' v σ H Q → t v σ H Q) : PGs X e t' := ⟨fun pins s σ H v u Q I r q => h.run pins s σ H v u Q I r (i v σ H Q q)⟩
def gNm (i : Nat) : GF := fun d ρ => some (ρ.set i (some d))
def gN : GsF := fun l ρ => match l with
  | [] => some ρ
  | _ => none
def gC (g : GF) (r : GsF) : GsF := fun l ρ => match l with
  | d :: l => (g d ρ).bind fun ρ1 => r l ρ1
  | [] => none
/-- a, b = a tuple of n -/
def gTp (n : Nat) (g : GsF) : GF := fun d ρ => match d with
  | .tup l => if l.length = n then g l ρ else none
  | _ => none
section
variable {X : Cx} {E : XK} {pos : Pos} {e : Expr} {es : List Expr} {g : GF} {r : GsF} {ws us : List Nat}
theorem xg_name {i : Nat} {x : Str} (hN : X.N.Nodup) (hi : X.N[i]? = some x := by rfl) (hx : Loc X.env.scope x := by first | exact Or.inl rfl | exact Or.inr rfl) (hf : X.fn x = true ∨ X.env.scope.names.lookup x = some .local := by first | exact .inl rfl | exact .inr rfl | assumption) :
    PG X (.Name x pos) (wT X.K [i] (gNm i)) := (pg_name hN hi hx hf).imp (by
  rintro v σ H Q ⟨Fz, ι, M, ρ, d, ρ', S, b, r, e, k⟩
  have e : ρ.set i (some d) = ρ' := Option.some.inj e
  subst e
  exact k _ (S.set i b r) (Off.set i σ (some v)))
theorem xgs_nil : PGs X [] (wTs X.K [] gN) := pgs_nil.imp (by
  rintro v σ H Q ⟨Fz, ι, M, ρ, l, ρ', S, b, r, e, k⟩
  cases l with
  | nil =>
    have e : ρ = ρ' := Option.some.inj e
    subst e
    exact ⟨r, k _ S (Off.refl _ _)⟩
  | cons _ _ => cases e)
theorem xgs_cons (h1 : PG X e (wT X.K us g)) (h2 : PGs X es (wTs X.K ws r)) (hs : (assignEach (e :: es) X.env).map (·.2) = assign e X.env :: (assignEach es X.env).map (·.2) := by rfl) : PGs X (e :: es) (wTs X.K (us ++ ws) (gC g r)) := (pgs_cons h1 h2 hs).imp (by
  rintro v σ H Q ⟨Fz, ι, M, ρ, l, ρ', S, b, rl, e, k⟩
  cases l with
  | nil => cases e
  | cons d l =>
    obtain ⟨x, xs, ev, rx, rxs⟩ := rl
    unfold gC at e
    dsimp only at e
    cases e1 : g d ρ with
    | none => rw [e1] at e; cases e
    | some ρ1 =>
      rw [e1] at e
      exact ⟨x, xs, ev, Fz, ι, M, ρ, d, ρ1, S, b.1, rx, e1, fun σ' S' o1 => ⟨Fz, ι, M, ρ1, l, ρ', S', b.2, rxs, e, fun σ2 S2 o2 => k σ2 S2 (o1.trans o2)⟩⟩)
theorem xg_tup {k : Nat} {n : Nat} (hc : X.calm = true) (h : PGs X es (wTs X.K ws r)) (hn : (assignEach es X.env).length = n := by rfl) (hst : (assignEach es X.env).findIdx? (·.1) = none := by rfl) : PG X (.Tuple es k pos) (wT X.K ws (gTp n r)) := (pg_tup hc h hn hst).imp (by
  rintro v σ H Q ⟨Fz, ι, M, ρ, d, ρ', S, b, rl, e, k⟩
  cases d with
  | tup l =>
    obtain ⟨a, vs, ev, hs, rl⟩ := rl
    unfold gTp at e
    dsimp only at e
    split at e
    · rename_i hl
      exact ⟨a, vs, ev, SqT.up S.rel.fz hs, by rw [← rl.len]; exact hl, Fz, ι, M, ρ, l, ρ', S, b, rl, e, k⟩
    · cases e
  | _ => cases e)
/-- a, b = e -/
def sTgt (g : GF) (f : EF) : SF := fun ρ M => (f ρ M).bind fun d M1 => match g d ρ with
  | some ρ' => .ok (.nx ρ') M1
  | none => .fail
theorem xs_asg {tg : Expr} {f : EF} (he : XE X E e f) (hg : PG X tg (wT X.K ws g)) (hs : swapsWithSole [tg] e pos.line X.env = pure false := by rfl) (hw : swappedStores [tg] e X.env = pure none := by rfl)
    (h1 : (assignEach [tg] X.env).map (·.2) = [assign tg X.env] := by rfl) : XS X E (.Assign [tg] e pos) (sTgt g f) := (ps_asg he hg hs hw h1).imp (by
  rintro D σ H ⟨Fz, ι, M, ρ, S, q⟩
  refine ⟨Fz, ι, M, ρ, S, q.first fun d M1 Fz1 H1 ι1 x g1 R1 ra q1 => ?_⟩
  cases e1 : g d ρ with
  | none => rw [e1] at q1; exact q1.elim
  | some ρ' =>
    rw [e1] at q1
    exact ⟨Fz1, ι1, M1, ρ, d, ρ', S.grow g1 R1, ra.1, ra.2, e1, fun σ' S' _ => q1.nxt S'⟩)
end

/-! ### what is walked -/
structure Wk where
  items : List D
  /-- the changing list that is walked -/
  w : Option Nat
def Wk.ok (it : Wk) (M : Mem) : Prop := match it.w with
  | none => True
  | some k => M[k]? = some (.lst it.items)
noncomputable instance (it : Wk) (M : Mem) : Decidable (it.ok M) := Classical.propDecidable _
@[simp] theorem Wk.ok_none {l : List D} {M : Mem} : Wk.ok ⟨l, none⟩ M := trivial
@[simp] theorem Wk.ok_some {l : List D} {M : Mem} {k : Nat} : Wk.ok ⟨l, some k⟩ M ↔ M[k]? = some (.lst l) := Iff.rfl
abbrev IF := Ro → Mem → Fl Wk
/-- the walk J yields these items -/
def RI (K : PySem.W.Frag) : Hp → (Nat → Addr) → Nat → Wk → It → Prop := fun F0 ι0 n0 it J => bndL n0 it.items ∧
  ∀ Fz H ι M, (∀ a o, F0 a = some o → Fz a = some o) → (∀ k, k < n0 → ι k = ι0 k) → n0 ≤ M.length → Rel K Fz H ι M → it.ok M →
    (∀ (i : Nat) (d : D), it.items[i]? = some d → J.go i H ∧ ∀ x H', J.yld i H x H' → ∃ Fz', Grow Fz H ι M.length Fz' H' ι M.length ∧ Rel K Fz' H' ι M ∧ RepV K Fz' ι d x) ∧ J.stop it.items.length H
def wI (K : PySem.W.Frag) (E : XK) (f : IF) : TI := fun σ H R => ∃ Fz ι M ρ, Sim K Fz H ι M ρ σ ∧ Post K E Fz H ι M.length (RI K) R (f ρ M)
theorem _root_.L2.PI.imp {X : Cx} {tg e : Expr} {t t' : TI} (h : PI X tg e t) (i : ∀ σ H Q, t' σ H Q → t σ H Q) : PI X tg e t' := ⟨fun pins s σ H Q I q => h.run pins s σ H Q I (i σ H Q q)⟩
abbrev XI (X : Cx) (E : XK) (tg e : Expr) (f : IF) : Prop := PI X tg e (wI X.K E f)
/-- a list -/
def iL (f : EF) : IF := fun ρ M => (f ρ M).bind fun d M1 => match d with
  | .lst l => .ok ⟨l, none⟩ M1
  | .scr l => .ok ⟨l, none⟩ M1
  | .ptr k => match M1[k]? with
    | some (.lst l) => .ok ⟨l, some k⟩ M1
    | _ => .fail
  | _ => .fail
def iT (f : EF) : IF := fun ρ M => (f ρ M).bind fun d M1 => match d with
  | .tup l => .ok ⟨l, none⟩ M1
  | _ => .fail
theorem it_list {K : PySem.W.Frag} {F0 : Hp} {ι0 : Nat → Addr} {n0 : Nat} {l : List D} {a : Addr} {w : Option Nat} (b : bndL n0 l)
    (h : ∀ Fz H ι M, (∀ a o, F0 a = some o → Fz a = some o) → (∀ k, k < n0 → ι k = ι0 k) → n0 ≤ M.length → Rel K Fz H ι M → Wk.ok ⟨l, w⟩ M → ∃ vs, SqL K H a vs ∧ RepL K Fz ι l vs) : RI K F0 ι0 n0 ⟨l, w⟩ (Itl K a) := by
  refine ⟨b, fun Fz H ι M h1 h2 h3 R ok => ?_⟩
  obtain ⟨vs, hs, rl⟩ := h Fz H ι M h1 h2 h3 R ok
  refine ⟨fun i d e => ?_, ⟨vs, hs, by rw [rl.len]; exact Nat.le_refl _⟩⟩
  obtain ⟨v, hv, rv⟩ := rl.get e
  refine ⟨⟨vs, v, hs, hv⟩, fun x H' y => ?_⟩
  obtain ⟨e1, y⟩ := y
  subst e1
  have e2 := (y vs hs).symm.trans hv
  cases e2
  exact ⟨Fz, Grow.refl _ _ _ _, R, rv⟩
section
variable {X : Cx} {E : XK} {tg e : Expr} {f : EF} {pos p : Pos} {K : PySem.W.Frag}
theorem xi_list (h : XE X E e f) : XI X E tg e (iL f) := (pi_list h).imp (by
  rintro σ H R ⟨Fz, ι, M, ρ, S, q⟩
  refine ⟨Fz, ι, M, ρ, S, q.first fun d M1 Fz1 H1 ι1 x g1 R1 ra q1 => ?_⟩
  cases d with
  | lst l =>
    obtain ⟨a, vs, ex, hs, rl⟩ := ra.2
    have hl : SqL X.K H1 a vs := SqL.of (R1.fz _ _ hs)
    exact ⟨a, ex, ⟨vs, hl⟩, q1.now R1 (it_list ra.1 fun Fz2 H2 ι2 M2 h1 h2 h3 R2 _ => ⟨vs, SqL.of (R2.fz _ _ (h1 _ _ hs)), RepL.up h1 h2 l vs ra.1 rl⟩)⟩
  | scr l =>
    obtain ⟨a, vs, ex, hs, rl⟩ := ra.2
    exact ⟨a, ex, ⟨vs, SqL.up R1.fz hs⟩, q1.now R1 (it_list ra.1 fun Fz2 H2 ι2 M2 h1 h2 h3 R2 _ => ⟨vs, SqL.up R2.fz (SqL.up h1 hs), RepL.up h1 h2 l vs ra.1 rl⟩)⟩
  | ptr k =>
    dsimp only at q1
    split at q1
    · rename_i l e
      obtain ⟨_, vs, e1, rl⟩ := R1.ob k _ e
      have ex : x = .ref (ι1 k) := ra.2
      refine ⟨ι1 k, ex, ⟨vs, SqL.of e1⟩, q1.now R1 (it_list (R1.wf k _ e) fun Fz2 H2 ι2 M2 h1 h2 h3 R2 ok => ?_)⟩
      have ok : M2[k]? = some (.lst l) := ok
      obtain ⟨_, vs2, e2, rl2⟩ := R2.ob k _ ok
      rw [h2 k ra.1] at e2
      exact ⟨vs2, SqL.of e2, rl2⟩
    · exact q1.elim
  | _ => exact q1.elim)
theorem xi_tup (h : XE X E e f) : XI X E tg e (iT f) := (pi_tup h).imp (by
  rintro σ H R ⟨Fz, ι, M, ρ, S, q⟩
  refine ⟨Fz, ι, M, ρ, S, q.first fun d M1 Fz1 H1 ι1 x g1 R1 ra q1 => ?_⟩
  cases d with
  | tup l =>
    obtain ⟨a, vs, ex, hs, rl⟩ := ra.2
    refine ⟨a, ex, ⟨vs, SqT.up R1.fz hs⟩, q1.now R1 ⟨ra.1, fun Fz2 H2 ι2 M2 h1 h2 h3 R2 _ => ?_⟩⟩
    have hs2 : SqT X.K H2 a vs := SqT.up R2.fz (SqT.up h1 hs)
    have rl2 : RepL X.K Fz2 ι2 l vs := RepL.up h1 h2 l vs ra.1 rl
    refine ⟨fun i d e => ?_, ⟨vs, hs2, by rw [rl.len]; exact Nat.le_refl _⟩⟩
    obtain ⟨v, hv, rv⟩ := rl2.get e
    refine ⟨⟨vs, v, hs2, hv⟩, fun x H' y => ?_⟩
    obtain ⟨e1, y⟩ := y
    subst e1
    have e2 := (y vs hs2).symm.trans hv
    cases e2
    exact ⟨Fz2, Grow.refl _ _ _ _, R2, rv⟩
  | _ => exact q1.elim)
/-- range -/
def rangeL (lo : Int) (n : Nat) : List D := (List.range n).map fun i => D.int (lo + (i : Nat))
def iR1 (fa : EF) : IF := fun ρ M => (fa ρ M).bind fun d M1 => match d with
  | .int j => if j < 1000000 ∧ -1000000 < j then .ok ⟨rangeL 0 j.toNat, none⟩ M1 else .fail
  | _ => .fail
def iR2 (fa fb : EF) : IF := fun ρ M => (fa ρ M).bind fun a M1 => (fb ρ M1).bind fun b M2 => match a, b with
  | .int i, .int j => if (-1000000 < i ∧ i < 1000000) ∧ (j < 1000000 ∧ -1000000 < j) then .ok ⟨rangeL i (j - i).toNat, none⟩ M2 else .fail
  | _, _ => .fail
theorem bnd_range (lo : Int) (n m : Nat) : bndL m (rangeL lo n) := bndL_iff.mpr fun d hd => by
  unfold rangeL at hd
  obtain ⟨i, _, rfl⟩ := List.mem_map.mp hd
  trivial
theorem ri_range {F0 : Hp} {ι0 : Nat → Addr} {n0 : Nat} (lo : Int) (n : Nat) : RI K F0 ι0 n0 ⟨rangeL lo n, none⟩ (Itr lo n) := by
  refine ⟨bnd_range _ _ _, fun Fz H ι M h1 h2 h3 R ok => ⟨fun i d e => ?_, ?_⟩⟩
  · unfold rangeL at e
    rw [List.getElem?_map] at e
    cases e2 : (List.range n)[i]? with
    | none => rw [e2] at e; cases e
    | some j =>
      rw [e2] at e
      have hj : i = j := by
        have := List.getElem?_eq_some_iff.mp e2
        obtain ⟨h, e3⟩ := this
        rw [List.getElem_range] at e3
        exact e3
      subst hj
      have hin : i < n := by
        have := (List.getElem?_eq_some_iff.mp e2).1
        rwa [List.length_range] at this
      have e := Option.some.inj e
      subst e
      refine ⟨hin, fun x H' y => ?_⟩
      obtain ⟨e1, y⟩ := y
      subst e1
      exact ⟨Fz, Grow.refl _ _ _ _, R, y⟩
  · show n ≤ (rangeL lo n).length
    unfold rangeL
    rw [List.length_map, List.length_range]
    exact Nat.le_refl _
theorem xi_range1 {a : Expr} {fa : EF} (ha : XE X E a fa) (hm : X.mg "range" = none) (hg : Gl X "range" := by rfl) (hs : starEach [a] X.env = [(false, eval a X.env)] := by rfl) : XI X E tg (.Call (.Name "range" p) [a] [] pos) (iR1 fa) :=
  (pi_range1 hg hm (pa_cons ha pa_nil hs) hs).imp (by
  rintro σ H R ⟨Fz, ι, M, ρ, S, q⟩
  refine ⟨Fz, ι, M, ρ, S, q.first fun d M1 Fz1 H1 ι1 x g1 R1 ra q1 => ?_⟩
  cases d with
  | int j =>
    dsimp only at q1
    split at q1
    · rename_i hj
      have ex : x = .int j := ra.2
      subst ex
      exact ⟨j, rfl, by omega, by omega, q1.now R1 (ri_range 0 j.toNat)⟩
    · exact q1.elim
  | _ => exact q1.elim)
theorem xi_range2 {a b : Expr} {fa fb : EF} (ha : XE X E a fa) (hb : XE X E b fb) (hm : X.mg "range" = none) (hg : Gl X "range" := by rfl) (hs : starEach [a, b] X.env = [(false, eval a X.env), (false, eval b X.env)] := by rfl) (hs2 : starEach [b] X.env = [(false, eval b X.env)] := by rfl) :
    XI X E tg (.Call (.Name "range" p) [a, b] [] pos) (iR2 fa fb) :=
  (pi_range2 hg hm (pa_cons ha (pa_cons hb pa_nil hs2) (by rw [hs, hs2])) hs hs2).imp (by
  rintro σ H R ⟨Fz, ι, M, ρ, S, q⟩
  refine ⟨Fz, ι, M, ρ, S, q.first fun d M1 Fz1 H1 ι1 x g1 R1 ra q1 => ?_⟩
  refine ⟨Fz1, ι1, M1, ρ, S.grow g1 R1, q1.first fun d2 M2 Fz2 H2 ι2 y g2 R2 rb q2 => ?_⟩
  cases d with
  | int i =>
    cases d2 with
    | int j =>
      dsimp only at q2
      split at q2
      · rename_i hj
        have ex : x = .int i := ra.2
        have ey : y = .int j := rb.2
        subst ex ey
        exact ⟨i, j, rfl, by omega, q2.now R2 (ri_range i (j - i).toNat)⟩
      · exact q2.elim
    | _ => exact q2.elim
  | _ => cases d2 <;> exact q2.elim)
/-- reversed(range(n)) -/
def iRev1 (fa : EF) : IF := fun ρ M => (fa ρ M).bind fun d M1 => match d with
  | .int j => if j < 1000000 ∧ -1000000 < j then .ok ⟨(rangeL 0 j.toNat).reverse, none⟩ M1 else .fail
  | _ => .fail
theorem range_rev_get {n i : Nat} {d : D} (e : (rangeL 0 n).reverse[i]? = some d) : i < n ∧ d = .int ((n : Int) - 1 - i) := by
  unfold rangeL at e
  obtain ⟨h, e2⟩ := List.getElem?_eq_some_iff.mp e
  rw [List.length_reverse, List.length_map, List.length_range] at h
  refine ⟨h, ?_⟩
  rw [List.getElem_reverse, List.getElem_map, List.getElem_range] at e2
  rw [← e2, List.length_map, List.length_range]
  have : ((n - 1 - i : Nat) : Int) = (n : Int) - 1 - i := by omega
  rw [this]
  congr 1
  omega
theorem xi_rev1 {a : Expr} {fa : EF} {p2 pos2 : Pos} (ha : XE X E a fa) (hm : X.mg "range" = none) (hm2 : X.mg "reversed" = none) (hg : Gl X "range" := by rfl) (hg2 : Gl X "reversed" := by rfl) (na : starEach [a] X.env = (false, eval a X.env) :: starEach [] X.env := by rfl)
    (hs : starEach [.Call (.Name "range" p) [a] [] pos] X.env = (false, eval (.Call (.Name "range" p) [a] [] pos) X.env) :: starEach [] X.env := by rfl) :
    XI X E tg (.Call (.Name "reversed" p2) [.Call (.Name "range" p) [a] [] pos] [] pos2) (iRev1 fa) := (pi_revR hg2 hm2 (prg_1 hg hm ha na) hs).imp (by
  rintro σ H R ⟨Fz, ι, M, ρ, S, q⟩
  refine ⟨Fz, ι, M, ρ, S, q.first fun d M1 Fz1 H1 ι1 x g1 R1 ra q1 => ?_⟩
  cases d with
  | int j =>
    dsimp only at q1
    split at q1
    · rename_i hj
      have ex : x = .int j := ra.2
      subst ex
      refine ⟨j, rfl, by omega, by omega, by omega, by omega, q1.now R1 ⟨bndL_iff.mpr fun d hd => ?_, fun Fz2 H2 ι2 M2 h1 h2 h3 R2 ok => ⟨fun i d e => ?_, ?_⟩⟩⟩
      · exact bndL_iff.mp (bnd_range 0 j.toNat _) d (List.mem_reverse.mp hd)
      · obtain ⟨hi, ed⟩ := range_rev_get e
        subst ed
        refine ⟨by show i < (j - 0).toNat; omega, fun x H' y => ?_⟩
        obtain ⟨e1, y⟩ := y
        subst e1
        refine ⟨Fz2, Grow.refl _ _ _ _, R2, ?_⟩
        show x = V.int _
        rw [y]
        congr 1
        omega
      · show (j - 0).toNat ≤ _
        unfold rangeL
        rw [List.length_reverse, List.length_map, List.length_range]
        omega
    · exact q1.elim
  | _ => exact q1.elim)
/-- enumerate(list) -/
def enumL (l : List D) : List D := (l.zipIdx).map fun p => D.tup [.int (p.2 : Nat), p.1]
def iEn (f : EF) : IF := fun ρ M => (f ρ M).bind fun d M1 => match d with
  | .lst l => .ok ⟨enumL l, none⟩ M1
  | .scr l => .ok ⟨enumL l, none⟩ M1
  | _ => .fail
theorem enumL_get {l : List D} {i : Nat} {d : D} (e : (enumL l)[i]? = some d) : ∃ d', l[i]? = some d' ∧ d = .tup [.int (i : Nat), d'] := by
  unfold enumL at e
  rw [List.getElem?_map, List.getElem?_zipIdx] at e
  cases e2 : l[i]? with
  | none => rw [e2] at e; cases e
  | some d' =>
    rw [e2] at e
    have e := Option.some.inj e
    refine ⟨d', rfl, ?_⟩
    rw [← e]
    simp
theorem bnd_enum {n : Nat} {l : List D} (b : bndL n l) : bndL n (enumL l) := bndL_iff.mpr fun d hd => by
  obtain ⟨i, e⟩ := List.getElem?_of_mem hd
  obtain ⟨d', e', rfl⟩ := enumL_get e
  exact ⟨trivial, bndL_get b e', trivial⟩
theorem len_enum (l : List D) : (enumL l).length = l.length := by
  unfold enumL
  rw [List.length_map, List.length_zipIdx]
theorem ri_enum {F0 : Hp} {ι0 : Nat → Addr} {n0 : Nat} {l : List D} {a : Addr} (b : bndL n0 l)
    (h : ∀ Fz H ι M, (∀ a o, F0 a = some o → Fz a = some o) → (∀ k, k < n0 → ι k = ι0 k) → n0 ≤ M.length → Rel K Fz H ι M → ∃ vs, SqL K H a vs ∧ RepL K Fz ι l vs) : RI K F0 ι0 n0 ⟨enumL l, none⟩ (Ite K a) := by
  refine ⟨bnd_enum b, fun Fz H ι M h1 h2 h3 R ok => ?_⟩
  obtain ⟨vs, hs, rl⟩ := h Fz H ι M h1 h2 h3 R
  refine ⟨fun i d e => ?_, ⟨vs, hs, by
    show vs.length ≤ (enumL l).length
    rw [len_enum, rl.len]
    exact Nat.le_refl _⟩⟩
  obtain ⟨d', e', rfl⟩ := enumL_get e
  obtain ⟨v, hv, rv⟩ := rl.get e'
  refine ⟨⟨vs, v, hs, hv⟩, fun x H' y => ?_⟩
  obtain ⟨T, z, ex, hT, e1, y⟩ := y
  subst ex e1
  have e2 := Option.some.inj ((y vs hs).symm.trans hv)
  subst e2
  obtain ⟨R2, g2⟩ := R.laid (o := .tup [V.int (i : Nat), z]) hT
  exact ⟨_, g2, R2, T, _, rfl, SqT.of upd_same, _, _, rfl, rfl, _, _, rfl, g2.rep (bnd.up h3 _ (bndL_get b e')) rv, rfl⟩
theorem xi_enum {a : Expr} {fa : EF} {elts : List Expr} {kk : Nat} {tpos : Pos} (ha : XE X E a fa) (hm : X.mg "enumerate" = none) (hg : Gl X "enumerate" := by rfl) (hs : starEach [a] X.env = [(false, eval a X.env)] := by rfl) :
    XI X E (.Tuple elts kk tpos) (.Call (.Name "enumerate" p) [a] [] pos) (iEn fa) := (pi_enum hg hm (pa_cons ha pa_nil hs) hs).imp (by
  rintro σ H R ⟨Fz, ι, M, ρ, S, q⟩
  refine ⟨Fz, ι, M, ρ, S, q.first fun d M1 Fz1 H1 ι1 x g1 R1 ra q1 => ?_⟩
  cases d with
  | lst l =>
    obtain ⟨a, vs, ex, hs, rl⟩ := ra.2
    subst ex
    exact ⟨a, vs, rfl, SqL.of (R1.fz _ _ hs), q1.now R1 (ri_enum ra.1 fun Fz2 H2 ι2 M2 h1 h2 h3 R2 => ⟨vs, SqL.of (R2.fz _ _ (h1 _ _ hs)), RepL.up h1 h2 l vs ra.1 rl⟩)⟩
  | scr l =>
    obtain ⟨a, vs, ex, hs, rl⟩ := ra.2
    subst ex
    exact ⟨a, vs, rfl, SqL.up R1.fz hs, q1.now R1 (ri_enum ra.1 fun Fz2 H2 ι2 M2 h1 h2 h3 R2 => ⟨vs, SqL.up R2.fz (SqL.up h1 hs), RepL.up h1 h2 l vs ra.1 rl⟩)⟩
  | _ => exact q1.elim)
/-- a text, sign by sign -/
def signsL (x : Str) : List D := x.cps.toList.map fun c => D.str ⟨#[c]⟩
def iStrF (f : EF) : IF := fun ρ M => (f ρ M).bind fun d M1 => match d with
  | .str x => .ok ⟨signsL x, none⟩ M1
  | _ => .fail
theorem xi_str (h : XE X E e f) : XI X E tg e (iStrF f) := (pi_str h).imp (by
  rintro σ H R ⟨Fz, ι, M, ρ, S, q⟩
  refine ⟨Fz, ι, M, ρ, S, q.first fun d M1 Fz1 H1 ι1 x g1 R1 ra q1 => ?_⟩
  cases d with
  | str z =>
    have ex : x = .str z := ra.2
    subst ex
    refine ⟨z, rfl, q1.now R1 ⟨bndL_iff.mpr fun d hd => ?_, fun Fz2 H2 ι2 M2 h1 h2 h3 R2 ok => ⟨fun i d e => ?_, ?_⟩⟩⟩
    · obtain ⟨c, _, rfl⟩ := List.mem_map.mp hd
      trivial
    · unfold signsL at e
      rw [List.getElem?_map] at e
      cases e2 : z.cps.toList[i]? with
      | none => rw [e2] at e; cases e
      | some c =>
        rw [e2] at e
        have e := Option.some.inj e
        subst e
        have hi : i < z.cps.size := by
          have := (List.getElem?_eq_some_iff.mp e2).1
          rwa [Array.length_toList] at this
        refine ⟨hi, fun x H' y => ?_⟩
        obtain ⟨e1, c', ec, y⟩ := y
        subst e1
        rw [← Array.getElem?_toList] at ec
        have e3 := ec.symm.trans e2
        cases e3
        exact ⟨Fz2, Grow.refl _ _ _ _, R2, y⟩
    · show z.cps.size ≤ _
      unfold signsL
      rw [List.length_map, Array.length_toList]
      exact Nat.le_refl _
  | _ => exact q1.elim)
end

/-! ### for -/
noncomputable def forF (it : Wk) (g : GF) (body : SF) : List D → Ro → Mem → Fl Fw
  | [], ρ, M => if it.ok M then .ok (.nx ρ) M else .fail
  | d :: r, ρ, M => if it.ok M then match g d ρ with
      | some ρ1 => (body ρ1 M).bind fun w M2 => match w with
        | .nx ρ2 => forF it g body r ρ2 M2
        | .ct ρ2 => forF it g body r ρ2 M2
        | .bk ρ2 => .ok (.nx ρ2) M2
        | .rt d => .ok (.rt d) M2
      | none => .fail
    else .fail
noncomputable def sFor (fi : IF) (g : GF) (body : SF) : SF := fun ρ M => (fi ρ M).bind fun it M1 => forF it g body it.items ρ M1
section
variable {X : Cx} {E : XK} {tg iter : Expr} {fi : IF} {g : GF} {body : List Stmt} {f : SF} {pos : Pos} {K : PySem.W.Frag} {ws : List Nat}
theorem for_w : ∀ D σ H, wS K E (sFor fi g f) D σ H → tFor (wI K E fi) (wT K ws g) (wS K E f) D σ H := by
  rintro D σ H ⟨Fz, ι, M, ρ, S, q⟩
  refine ⟨Fz, ι, M, ρ, S, q.first fun it M1 F1 H1 ι1 J g1 R1 ra q1 => ?_⟩
  refine ⟨fun i m σ' H' => ∃ Fz2 ι2 M2 ρ2, m = it.items.length - i ∧ i ≤ it.items.length ∧ Grow F1 H1 ι1 M1.length Fz2 H' ι2 M2.length ∧ Sim K Fz2 H' ι2 M2 ρ2 σ' ∧ PostS K E Fz2 H' ι2 M2.length D (forF it g f (it.items.drop i) ρ2 M2),
    ⟨it.items.length, F1, ι1, M1, ρ, by simp, Nat.zero_le _, Grow.refl _ _ _ _, S.grow g1 R1, by simpa using q1⟩, ?_⟩
  rintro i m σ' H' ⟨Fz2, ι2, M2, ρ2, rfl, hi, g2, S2, q2⟩
  by_cases ok : it.ok M2
  · obtain ⟨hgo, hstop⟩ := ra.2 Fz2 H' ι2 M2 g2.fz g2.io g2.le S2.rel ok
    by_cases hlt : i < it.items.length
    · rw [List.drop_eq_getElem_cons hlt] at q2
      unfold forF at q2
      rw [if_pos ok] at q2
      obtain ⟨hg1, hg2⟩ := hgo i it.items[i] (List.getElem?_eq_getElem hlt)
      have bd : bnd M2.length it.items[i] := bnd.up g2.le _ (bndL_get ra.1 (List.getElem?_eq_getElem hlt))
      refine .inr ⟨hg1, fun σ3 H3 => ∃ Fz3 ι3 M3 ρ3, Grow F1 H1 ι1 M1.length Fz3 H3 ι3 M3.length ∧ Sim K Fz3 H3 ι3 M3 ρ3 σ3 ∧ PostS K E Fz3 H3 ι3 M3.length D (forF it g f (it.items.drop (i + 1)) ρ3 M3), fun σ3 H3 ⟨Fz3, ι3, M3, ρ3, a, b, c⟩ => ?_, fun x H3 hy => ?_⟩
      · exact ⟨it.items.length - (i + 1), by omega, Fz3, ι3, M3, ρ3, rfl, hlt, a, b, c⟩
      · obtain ⟨Fz3, g3, R3, rx⟩ := hg2 x H3 hy
        have S3 : Sim K Fz3 H3 ι2 M2 ρ2 σ' := S2.grow g3 R3
        cases e1 : g it.items[i] ρ2 with
        | none => rw [e1] at q2; exact q2.elim
        | some ρ3 =>
          rw [e1] at q2
          dsimp only at q2
          refine ⟨Fz3, ι2, M2, ρ2, it.items[i], ρ3, S3, bd, rx, e1, fun σ3 S4 _ => ?_⟩
          refine ⟨Fz3, ι2, M2, ρ3, S4, ?_⟩
          have g23 := g2.trans g3
          cases e2 : f ρ3 M2 with
          | fail => rw [e2] at q2; exact q2.elim
          | exc e M4 => rw [e2] at q2; exact PostS.grow g3 q2
          | ok w M4 =>
            rw [e2] at q2
            cases w with
            | nx ρ4 => exact fun Fz4 H4 ι4 σ4 g4 S5 => ⟨Fz4, ι4, M4, ρ4, g23.trans g4, S5, PostS.grow (g3.trans g4) (show PostS _ _ _ _ _ _ _ (forF it g f (it.items.drop (i + 1)) ρ4 M4) from q2)⟩
            | ct ρ4 => exact fun Fz4 H4 ι4 σ4 g4 S5 => ⟨Fz4, ι4, M4, ρ4, g23.trans g4, S5, PostS.grow (g3.trans g4) (show PostS _ _ _ _ _ _ _ (forF it g f (it.items.drop (i + 1)) ρ4 M4) from q2)⟩
            | bk ρ4 => exact PostS.grow (r := .ok (.nx ρ4) M4) g3 q2
            | rt d => exact PostS.grow (r := .ok (.rt d) M4) g3 q2
    · have hie : i = it.items.length := by omega
      subst hie
      rw [List.drop_length] at q2
      unfold forF at q2
      rw [if_pos ok] at q2
      exact .inl ⟨hstop, q2.nxt S2⟩
  · cases e : it.items.drop i with
    | nil =>
      rw [e] at q2
      unfold forF at q2
      rw [if_neg ok] at q2
      exact q2.elim
    | cons d r =>
      rw [e] at q2
      unfold forF at q2
      rw [if_neg ok] at q2
      exact q2.elim
theorem xs_for (hp : PassesOwn (model X.prog X.w) X.A X.env X.xe) (hc : X.calm = true) (hi : XI X E tg iter fi) (hg : PG X tg (wT X.K ws g)) (hb : XSs X E body f) (hs : ∀ x, foldedSetIterable iter X.env x = pure x := by intro _; rfl) :
    XS X E (.For tg iter body [] pos) (sFor fi g f) := (ps_for hp hc hi hg hb hs).imp for_w
end

/-! ### while -/
def whileF (c : BF) (f : SF) : Nat → Ro → Mem → Fl Fw
  | 0, _, _ => .fail
  | n + 1, ρ, M => (c ρ M).bind fun b M1 => if b = true then (f ρ M1).bind fun w M2 => match w with
      | .nx ρ2 => whileF c f n ρ2 M2
      | .ct ρ2 => whileF c f n ρ2 M2
      | .bk ρ2 => .ok (.nx ρ2) M2
      | .rt d => .ok (.rt d) M2
    else .ok (.nx ρ) M1
def sWhile (N : Nat) (c : BF) (f : SF) : SF := fun ρ M => whileF c f N ρ M
section
variable {X : Cx} {E : XK} {c : Expr} {gc : BF} {body : List Stmt} {f : SF} {pos : Pos} {K : PySem.W.Frag}
theorem while_w (N : Nat) : ∀ D σ H, wS K E (sWhile N gc f) D σ H → tWhile (wB K E gc) (wS K E f) D σ H := by
  rintro D σ H ⟨Fz, ι, M, ρ, S, q⟩
  refine ⟨fun n σ' H' => ∃ Fz ι M ρ, Sim K Fz H' ι M ρ σ' ∧ PostS K E Fz H' ι M.length D (whileF gc f n ρ M), ⟨N, Fz, ι, M, ρ, S, q⟩, ?_⟩
  rintro n σ1 H1 ⟨F1, ι1, M1, ρ1, S1, q1⟩
  cases n with
  | zero => exact q1.elim
  | succ n =>
    unfold whileF at q1
    refine ⟨F1, ι1, M1, ρ1, S1, q1.first fun b M2 F2 H2 ι2 x g2 R2 rb q2 => ?_⟩
    have rb : x = b := rb
    subst rb
    cases x with
    | false =>
      rw [if_neg Bool.false_ne_true] at q2 ⊢
      exact q2.nxt (S1.grow g2 R2)
    | true =>
      rw [if_pos rfl] at q2 ⊢
      refine ⟨fun σ' H' => ∃ Fz ι M ρ, Sim K Fz H' ι M ρ σ' ∧ PostS K E Fz H' ι M.length D (whileF gc f n ρ M), fun σ' H' h => ⟨n, Nat.lt_succ_self _, h⟩, F2, ι2, M2, ρ1, S1.grow g2 R2, ?_⟩
      cases e2 : f ρ1 M2 with
      | fail => rw [e2] at q2; exact q2.elim
      | exc e M4 => rw [e2] at q2; exact q2
      | ok w M4 =>
        rw [e2] at q2
        cases w with
        | nx ρ4 => exact fun Fz4 H4 ι4 σ4 g4 S5 => ⟨Fz4, ι4, M4, ρ4, S5, PostS.grow g4 (show PostS _ _ _ _ _ _ _ (whileF gc f n ρ4 M4) from q2)⟩
        | ct ρ4 => exact fun Fz4 H4 ι4 σ4 g4 S5 => ⟨Fz4, ι4, M4, ρ4, S5, PostS.grow g4 (show PostS _ _ _ _ _ _ _ (whileF gc f n ρ4 M4) from q2)⟩
        | bk ρ4 => exact q2
        | rt d => exact q2
theorem xs_while (N : Nat) (hp : PassesOwn (model X.prog X.w) X.A X.env X.xe) (hc : XT X E c gc) (hb : XSs X E body f) : XS X E (.While c body [] pos) (sWhile N gc f) := (ps_while hp hc hb).imp (while_w N)
end
end MM

/-! MMe: comprehensions, methods, stores, slices, calls, defs. -/
namespace MM
open PySem PySem.Spec PyProof.Rows L2

/-! ### one more thing that the memory does not speak of -/
section
variable {K : PySem.W.Frag} {E : XK} {Fz H Fz' H' : Hp} {ι ι' : Nat → Addr} {n n' : Nat} {M M' : Mem} {p : Addr} {o : HO}
theorem Rel.side (R : Rel K Fz H ι M) (h1 : Fz p = none) (h2 : ∀ k, k < M.length → ι k ≠ p) : Rel K Fz (upd H p o) ι M := by
  refine ⟨fun a u e => ?_, fun k mo e => ?_, R.wf, fun k hk => ?_, R.inj⟩
  · rw [upd_ne (ne_of_none e h1)]; exact R.fz a u e
  · exact ObM.keep (m := 0) R e (fun _ _ e => e) rfl (fun _ _ => rfl) (upd_ne (h2 k (List.getElem?_eq_some_iff.mp e).1))
  · rw [upd_ne (h2 k hk)]; exact R.occ k hk
theorem Grow.side (g : Grow Fz H ι n Fz' H' ι' n') (h : H p = none) : Grow Fz H ι n Fz' (upd H' p o) ι' n' :=
  ⟨g.fz, g.io, g.le, g.new, fun a u e hk => by rw [upd_ne (ne_of_none e h)]; exact g.fr a u e hk, fun a e => by
    unfold upd; split
    · exact fun z => by cases z
    · exact g.th a e, g.fn⟩
/-- it becomes the memory's last -/
theorem Rel.adopt (R : Rel K Fz H ι M) {mo : MO} (h1 : Fz p = none) (h2 : ∀ k, k < M.length → ι k ≠ p) (h3 : H p ≠ none) (b : mo.bnd M.length) (q : ∀ ι', (∀ j, j < M.length → ι' j = ι j) → ObM K Fz H ι' p mo) : Rel K Fz H (ext ι M.length p) (M ++ [mo]) := by
  have hl : (M ++ [mo]).length = M.length + 1 := by simp
  have io : ∀ j, j < M.length → ext ι M.length p j = ι j := fun j hj => ext_lt hj
  refine ⟨R.fz, fun k m e => ?_, fun k m e => ?_, fun k hk => ?_, fun i j hi' hj' e => ?_⟩
  · by_cases hk : k < M.length
    · rw [List.getElem?_append_left hk] at e
      exact ObM.keep (m := 0) R e (fun _ _ e => e) rfl io rfl
    · have hk2 : k < (M ++ [mo]).length := (List.getElem?_eq_some_iff.mp e).1
      have : k = M.length := by omega
      subst this
      rw [List.getElem?_append_right (Nat.le_refl _), Nat.sub_self] at e
      have e : mo = m := Option.some.inj e
      subst e
      rw [ext_same]
      exact q _ io
  · rw [hl]
    by_cases hk : k < M.length
    · rw [List.getElem?_append_left hk] at e
      exact MO.bnd.up (Nat.le_succ _) m (R.wf k m e)
    · have hk2 : k < (M ++ [mo]).length := (List.getElem?_eq_some_iff.mp e).1
      have : k = M.length := by omega
      subst this
      rw [List.getElem?_append_right (Nat.le_refl _), Nat.sub_self] at e
      have e : mo = m := Option.some.inj e
      subst e
      exact MO.bnd.up (Nat.le_succ _) mo b
  · rw [hl] at hk
    by_cases hk2 : k < M.length
    · rw [io k hk2]; exact R.occ k hk2
    · have : k = M.length := by omega
      subst this
      rw [ext_same]; exact h3
  · rw [hl] at hi' hj'
    by_cases a1 : i < M.length
    · by_cases a2 : j < M.length
      · rw [io i a1, io j a2] at e; exact R.inj i j a1 a2 e
      · have : j = M.length := by omega
        subst this
        rw [ext_same, io i a1] at e
        exact absurd e (h2 i a1)
    · have : i = M.length := by omega
      subst this
      by_cases a2 : j < M.length
      · rw [ext_same, io j a2] at e
        exact absurd e.symm (h2 j a2)
      · omega
/-- it stands for good -/
theorem Rel.freeze (R : Rel K Fz H ι M) (h1 : Fz p = none) (h2 : ∀ k, k < M.length → ι k ≠ p) (h3 : H p = some o) : Rel K (upd Fz p o) H ι M := by
  have up : ∀ a u, Fz a = some u → upd Fz p o a = some u := fun a u e => by rw [upd_ne (ne_of_none e h1)]; exact e
  refine ⟨fun a u e => ?_, fun k mo e => ?_, R.wf, R.occ, R.inj⟩
  · by_cases q : a = p
    · subst q; rw [upd_same] at e; rw [h3]; exact e
    · rw [upd_ne q] at e; exact R.fz a u e
  · exact ObM.keep (m := 0) R e up (upd_ne (h2 k (List.getElem?_eq_some_iff.mp e).1)) (fun _ _ => rfl) rfl
theorem Grow.freeze (g : Grow Fz H ι n Fz' H' ι' n') (h : H p = none) (h1 : Fz' p = none) : Grow Fz H ι n (upd Fz' p o) H' ι' n' :=
  ⟨fun a u e => by rw [upd_ne (ne_of_none (g.fz a u e) h1)]; exact g.fz a u e, g.io, g.le, g.new, g.fr, g.th, fun a e => by
    by_cases q : a = p
    · exact .inr (.inl (q ▸ h))
    · rw [upd_ne q] at e; exact g.fn a e⟩
theorem Grow.adopt (g : Grow Fz H ι n Fz' H' ι' n') (h : H p = none) : Grow Fz H ι n Fz' H' (ext ι' n' p) (n' + 1) :=
  ⟨g.fz, fun k hk => by rw [ext_lt (Nat.lt_of_lt_of_le hk g.le)]; exact g.io k hk, Nat.le_succ_of_le g.le, fun k h1 h2 => by
    by_cases q : k = n'
    · subst q; rw [ext_same]; exact h
    · rw [ext_lt (by omega)]; exact g.new k h1 (by omega), g.fr, g.th, g.fn⟩
/-- as Post.first, the wish said at an earlier state -/
theorem Post.firstG {α β γ δ : Type} {R1 : Hp → (Nat → Addr) → Nat → α → β → Prop} {Q1 : β → Hp → Prop} {R2 : Hp → (Nat → Addr) → Nat → γ → δ → Prop} {Q2 : δ → Hp → Prop} {k : α → Mem → Fl γ} (g0 : Grow Fz H ι n Fz' H' ι' n') :
    ∀ {r : Fl α}, Post K E Fz H ι n R2 Q2 (r.bind k) →
    (∀ a M1 Fz1 H1 ι1 b, Grow Fz' H' ι' n' Fz1 H1 ι1 M1.length → Rel K Fz1 H1 ι1 M1 → R1 Fz1 ι1 M1.length a b → Post K E Fz H ι n R2 Q2 (k a M1) → Q1 b H1) → Post K E Fz' H' ι' n' R1 Q1 r
  | .ok a M1, h, hk => fun Fz1 H1 ι1 b g rel q => hk a M1 Fz1 H1 ι1 b g rel q h
  | .exc e M1, h, _ => Post.grow (r := .exc (α := α) e M1) (R := R1) (Q := Q1) g0 (fun Fz2 H2 ι2 c dx g2 rel q => h Fz2 H2 ι2 c dx g2 rel q)
  | .fail, h, _ => h
end

/-! ### comprehensions -/
def wipeR (ρ : Ro) : List Nat → Ro
  | [] => ρ
  | v :: vs => (wipeR ρ vs).set v none
theorem Sim.wipes {K : PySem.W.Frag} {Fz H : Hp} {ι : Nat → Addr} {M : Mem} {ρ : Ro} {σ : L2.St} (S : Sim K Fz H ι M ρ σ) : ∀ vs : List Nat, Sim K Fz H ι M (wipeR ρ vs) (L2.wipe σ vs)
  | [] => S
  | v :: vs => (Sim.wipes S vs).wipe v
noncomputable def lcF (it : Wk) (vs : List Nat) (g : GF) (ft : BF) (fe : EF) : List D → Ro → Mem → Fl (List D)
  | [], _, M => if it.ok M then .ok [] M else .fail
  | d :: r, ρ, M => if it.ok M then match g d (wipeR ρ vs) with
      | some ρ1 => (ft ρ1 M).bind fun b M1 => if b = true then (fe ρ1 M1).bind fun y M2 => (lcF it vs g ft fe r ρ M2).bind fun ys M3 => .ok (y :: ys) M3
        else lcF it vs g ft fe r ρ M1
      | none => .fail
    else .fail
/-- a list that stands for good -/
noncomputable def eLcF (fi : IF) (vs : List Nat) (g : GF) (ft : BF) (fe : EF) : EF := fun ρ M => (fi ρ M).bind fun it M1 => if it.items.length ≤ 1000000 then (lcF it vs g ft fe it.items ρ M1).bind fun ys M2 => .ok (.lst ys) M2 else .fail
/-- a list that may change -/
noncomputable def eLcP (fi : IF) (vs : List Nat) (g : GF) (ft : BF) (fe : EF) : EF := fun ρ M => (fi ρ M).bind fun it M1 => if it.items.length ≤ 1000000 then (lcF it vs g ft fe it.items ρ M1).bind fun ys M2 => .ok (.ptr M2.length) (M2 ++ [.lst ys]) else .fail
def bYes : BF := fun _ M => .ok true M
section
variable {X : Cx} {E : XK} {K : PySem.W.Frag} {fi : IF} {vs : List Nat} {g : GF} {ft : BF} {fe : EF}
/-- the loop of a comprehension; fin: what becomes of its list -/
theorem lc_w {fin : List D → Mem → Fl D} (hfin : ∀ F0 H0 ι0 n0 Fz H ι M Q p acc accV, Grow F0 H0 ι0 n0 Fz H ι M.length → H0 p = none → Rel K Fz H ι M → Fz p = none → (∀ k, k < M.length → ι k ≠ p) → H p = some (.lst accV) → bndL M.length acc → RepL K Fz ι acc accV →
      Post K E F0 H0 ι0 n0 (RD K) Q (fin acc M) → Q (.ref p) H) :
    ∀ σ H Q, wE K E (fun ρ M => (fi ρ M).bind fun it M1 => if it.items.length ≤ 1000000 then (lcF it vs g ft fe it.items ρ M1).bind fin else .fail) σ H Q → tLc (wI K E fi) (wT K vs g) (wB K E ft) (wE K E fe) vs σ H Q := by
  rintro σ H Q ⟨Fz, ι, M, ρ, S, q⟩
  refine ⟨Fz, ι, M, ρ, S, q.first fun it M1 F1 H1 ι1 J g1 R1 ra q1 => ?_⟩
  intro p hp
  split at q1
  · rename_i hlen
    obtain ⟨hfp, hip⟩ := R1.fresh hp
    refine ⟨fun i m H' => ∃ Fz2 ι2 M2 acc accV, m = it.items.length - i ∧ i ≤ it.items.length ∧ Grow F1 H1 ι1 M1.length Fz2 H' ι2 M2.length ∧ Rel K Fz2 H' ι2 M2 ∧ Fz2 p = none ∧ (∀ k, k < M2.length → ι2 k ≠ p) ∧
        H' p = some (.lst accV) ∧ bndL M2.length acc ∧ RepL K Fz2 ι2 acc accV ∧ acc.length ≤ i ∧ Post K E F1 H1 ι1 M1.length (RD K) Q ((lcF it vs g ft fe (it.items.drop i) ρ M2).bind fun ys M3 => fin (acc ++ ys) M3),
      ⟨it.items.length, F1, ι1, M1, [], [], by simp, Nat.zero_le _, (Grow.refl _ _ _ _).side hp, R1.side hfp hip, hfp, hip, upd_same, trivial, rfl, Nat.le_refl _, by simpa using q1⟩, ?_⟩
    rintro i m H' ⟨Fz2, ι2, M2, acc, accV, rfl, hi, g2, R2, f2, p2, hacc, bacc, racc, hal, q2⟩
    by_cases ok : it.ok M2
    · obtain ⟨hgo, hstop⟩ := ra.2 Fz2 H' ι2 M2 g2.fz g2.io g2.le R2 ok
      by_cases hlt : i < it.items.length
      · rw [List.drop_eq_getElem_cons hlt] at q2
        unfold lcF at q2
        rw [if_pos ok] at q2
        obtain ⟨hg1, hg2⟩ := hgo i it.items[i] (List.getElem?_eq_getElem hlt)
        have bd : bnd M2.length it.items[i] := bnd.up g2.le _ (bndL_get ra.1 (List.getElem?_eq_getElem hlt))
        refine .inr ⟨hg1, fun H3 => ∃ Fz3 ι3 M3 acc accV, Grow F1 H1 ι1 M1.length Fz3 H3 ι3 M3.length ∧ Rel K Fz3 H3 ι3 M3 ∧ Fz3 p = none ∧ (∀ k, k < M3.length → ι3 k ≠ p) ∧
            H3 p = some (.lst accV) ∧ bndL M3.length acc ∧ RepL K Fz3 ι3 acc accV ∧ acc.length ≤ i + 1 ∧ Post K E F1 H1 ι1 M1.length (RD K) Q ((lcF it vs g ft fe (it.items.drop (i + 1)) ρ M3).bind fun ys M4 => fin (acc ++ ys) M4),
          fun H3 ⟨Fz3, ι3, M3, acc3, accV3, a1, a2, a3, a4, a5, a6, a7, a8, a9⟩ => ⟨it.items.length - (i + 1), by omega, Fz3, ι3, M3, acc3, accV3, rfl, hlt, a1, a2, a3, a4, a5, a6, a7, a8, a9⟩, fun x H3 hy => ?_⟩
        obtain ⟨Fz3, g3, R3, rx⟩ := hg2 x H3 hy
        -- the list at p is as it was
        have side : ∀ {Fz4 H4 ι4 n4}, Grow Fz2 H' ι2 M2.length Fz4 H4 ι4 n4 → H4 p = some (.lst accV) ∧ Fz4 p = none ∧ ∀ k, k < n4 → ι4 k ≠ p := fun {Fz4 H4 ι4 n4} g4 => by
          refine ⟨g4.fr p _ hacc p2, ?_, fun k hk e => ?_⟩
          · cases e : Fz4 p with
            | none => rfl
            | some u =>
              rcases g4.fn p (by rw [e]; exact fun z => by cases z) with z | z | ⟨k, hk, z⟩
              · exact absurd f2 z
              · rw [hacc] at z; cases z
              · exact absurd z (p2 k hk)
          · by_cases hk2 : k < M2.length
            · exact p2 k hk2 ((g4.io k hk2).symm.trans e)
            · have z := g4.new k (Nat.le_of_not_lt hk2) hk
              rw [e, hacc] at z; cases z
        -- the state's slots
        have S2 : Sim K Fz2 H' ι2 M2 ρ σ := ⟨R2, S.len, fun j d e => by
          obtain ⟨b, v, e', r⟩ := (S.grow g1 R1).slot j d e
          exact ⟨bnd.up g2.le d b, v, e', RepV.up g2.fz g2.io d v b r⟩⟩
        have S3 : Sim K Fz3 H3 ι2 M2 (wipeR ρ vs) (wipe σ vs) := (S2.grow g3 R3).wipes vs
        cases e1 : g it.items[i] (wipeR ρ vs) with
        | none => rw [e1] at q2; exact q2.elim
        | some ρ3 =>
          rw [e1] at q2
          dsimp only at q2
          refine ⟨Fz3, ι2, M2, wipeR ρ vs, it.items[i], ρ3, S3, bd, rx, e1, fun σ4 S4 o4 => ⟨?_, ?_⟩⟩
          · exact o4.wipe.trans (Off.of_wipe vs σ).wipe
          have q2' : Post K E F1 H1 ι1 M1.length (RD K) Q ((ft ρ3 M2).bind fun b M5 => (if b = true then (fe ρ3 M5).bind fun y M6 => (lcF it vs g ft fe (it.items.drop (i + 1)) ρ M6).bind fun ys M7 => .ok (y :: ys) M7
              else lcF it vs g ft fe (it.items.drop (i + 1)) ρ M5).bind fun ys M8 => fin (acc ++ ys) M8) := by
            cases e5 : ft ρ3 M2 with
            | ok b M5 => rw [e5] at q2; exact q2
            | exc e M5 => rw [e5] at q2; exact q2
            | fail => rw [e5] at q2; exact q2
          have g23 := g2.trans g3
          refine ⟨Fz3, ι2, M2, ρ3, S4, Post.firstG g23 q2' fun b M5 Fz5 H5 ι5 y g5 R5 rb q5 => ?_⟩
          have rb : y = b := rb
          subst rb
          cases y with
          | false =>
            rw [if_neg Bool.false_ne_true] at q5
            rw [if_neg Bool.false_ne_true]
            have gg := g3.trans g5
            obtain ⟨s1, s2, s3⟩ := side gg
            exact ⟨Fz5, ι5, M5, acc, accV, g23.trans g5, R5, s2, s3, s1, bndL.up gg.le acc bacc, RepL.up gg.fz gg.io acc accV bacc racc, by omega, q5⟩
          | true =>
            rw [if_pos rfl] at q5
            rw [if_pos rfl]
            have q5' : Post K E F1 H1 ι1 M1.length (RD K) Q ((fe ρ3 M5).bind fun y M6 => ((lcF it vs g ft fe (it.items.drop (i + 1)) ρ M6).bind fun ys M7 => .ok (y :: ys) M7).bind fun ys M8 => fin (acc ++ ys) M8) := by
              cases e6 : fe ρ3 M5 with
              | ok y M6 => rw [e6] at q5; exact q5
              | exc e M6 => rw [e6] at q5; exact q5
              | fail => rw [e6] at q5; exact q5
            refine ⟨Fz5, ι5, M5, ρ3, S4.grow g5 R5, Post.firstG (g23.trans g5) q5' fun z M6 Fz6 H6 ι6 zv g6 R6 rz q6 => ?_⟩
            have gg := (g3.trans g5).trans g6
            obtain ⟨s1, s2, s3⟩ := side gg
            have bacc6 := bndL.up gg.le acc bacc
            have racc6 : RepL K Fz6 ι6 acc accV := RepL.up gg.fz gg.io acc accV bacc racc
            refine ⟨accV, s1, ?_, Fz6, ι6, M6, acc ++ [z], accV ++ [zv], ?_, R6.side s2 s3, s2, s3, upd_same, bndL_append.mpr ⟨bacc6, rz.1, trivial⟩, racc6.append ⟨zv, [], rfl, rz.2, rfl⟩, by rw [List.length_append, List.length_singleton]; omega, ?_⟩
            · rw [← racc6.len]
              exact small6' (by omega)
            · exact ((g23.trans g5).trans g6).side hp
            · cases e7 : lcF it vs g ft fe (it.items.drop (i + 1)) ρ M6 with
              | ok ys M7 =>
                rw [e7] at q6
                rw [Fl.bind_ok, Fl.bind_ok] at q6
                rw [Fl.bind_ok, List.append_assoc]
                exact q6
              | exc e M7 => rw [e7] at q6; exact q6
              | fail => rw [e7] at q6; exact q6
      · have hie : i = it.items.length := by omega
        subst hie
        rw [List.drop_length] at q2
        unfold lcF at q2
        rw [if_pos ok] at q2
        refine .inl ⟨hstop, ?_⟩
        rw [Fl.bind_ok, List.append_nil] at q2
        exact hfin F1 H1 ι1 M1.length Fz2 H' ι2 M2 Q p acc accV g2 hp R2 f2 p2 hacc bacc racc q2
    · cases e : it.items.drop i with
      | nil =>
        rw [e] at q2
        unfold lcF at q2
        rw [if_neg ok] at q2
        exact q2.elim
      | cons d r =>
        rw [e] at q2
        unfold lcF at q2
        rw [if_neg ok] at q2
        exact q2.elim
  · exact q1.elim
end
end MM

/-! MMf: rules for comprehensions, methods, stores, slices. -/
namespace MM
open PySem PySem.Spec PyProof.Rows L2
section
variable {X : Cx} {E : XK} {K : PySem.W.Frag} {fi : IF} {vs : List Nat} {g : GF} {ft : BF} {fe : EF}
theorem fin_F : ∀ F0 H0 ι0 n0 Fz H ι M Q p acc accV, Grow F0 H0 ι0 n0 Fz H ι M.length → H0 p = none → Rel K Fz H ι M → Fz p = none → (∀ k, k < M.length → ι k ≠ p) → H p = some (.lst accV) → bndL M.length acc → RepL K Fz ι acc accV →
    Post K E F0 H0 ι0 n0 (RD K) Q ((fun ys M2 => (.ok (.lst ys) M2 : Fl D)) acc M) → Q (.ref p) H := by
  intro F0 H0 ι0 n0 Fz H ι M Q p acc accV g h0 R f1 f2 h b r q
  have R2 : Rel K (upd Fz p (.lst accV)) H ι M := R.freeze f1 f2 h
  have up : ∀ a u, Fz a = some u → upd Fz p (.lst accV) a = some u := fun a u e => by rw [upd_ne (ne_of_none e f1)]; exact e
  exact q _ _ _ _ (g.freeze h0 f1) R2 ⟨b, p, accV, rfl, upd_same, RepL.up (n := M.length) up (fun _ _ => rfl) _ _ b r⟩
theorem fin_P : ∀ F0 H0 ι0 n0 Fz H ι M Q p acc accV, Grow F0 H0 ι0 n0 Fz H ι M.length → H0 p = none → Rel K Fz H ι M → Fz p = none → (∀ k, k < M.length → ι k ≠ p) → H p = some (.lst accV) → bndL M.length acc → RepL K Fz ι acc accV →
    Post K E F0 H0 ι0 n0 (RD K) Q ((fun ys M2 => (.ok (.ptr M2.length) (M2 ++ [.lst ys]) : Fl D)) acc M) → Q (.ref p) H := by
  intro F0 H0 ι0 n0 Fz H ι M Q p acc accV g h0 R f1 f2 h b r q
  have R2 : Rel K Fz H (ext ι M.length p) (M ++ [MO.lst acc]) := R.adopt (mo := .lst acc) f1 f2 (by rw [h]; exact fun z => by cases z) b fun ι' hi => ⟨f1, accV, h, RepL.up (n := M.length) (fun _ _ e => e) hi _ _ b r⟩
  have hl : (M ++ [MO.lst acc]).length = M.length + 1 := by simp
  refine q _ _ _ _ (by rw [hl]; exact g.adopt h0) R2 ⟨by rw [hl]; exact Nat.lt_succ_self _, ?_⟩
  show V.ref p = V.ref (ext ι M.length p M.length)
  rw [ext_same]
variable {elt tg iter : Expr} {ifs : List Expr} {scope : Scope} {own : List (Str × Nat)} {pos spos py : Pos} {i : Nat} {y : Str}
theorem xts_nil : PTs X [] (wB X.K E bYes) := pts_nil.imp (by
  rintro σ H Q ⟨Fz, ι, M, ρ, S, q⟩
  exact q.now S.rel rfl)
theorem xts_one {c : Expr} {gc : BF} (h : XT X E c gc) : PTs X [c] (wB X.K E gc) := pts_one h
theorem xe_lcF (hc : X.calm = true) (hN : X.N.Nodup) (hi : XI X E tg iter fi) (ok : BlkOk X.N X.env.scope scope own)
    (hg : ∀ (s : Shared) (H : Hp) (C : Addr) (cl : List (Str × Addr)) (fp : List Addr), PG (X.blk s H scope (compEnvC scope cl C X.env) fp) tg (wT X.K (own.map (·.2)) g))
    (ht : ∀ (s : Shared) (H : Hp) (C : Addr) (cl : List (Str × Addr)) (fp : List Addr), PTs (X.blk s H scope (compEnvC scope cl C X.env) fp) ifs (wB X.K E ft))
    (he : ∀ (s : Shared) (H : Hp) (C : Addr) (cl : List (Str × Addr)) (fp : List Addr), PE (X.blk s H scope (compEnvC scope cl C X.env) fp) elt (wE X.K E fe)) (hs : ∀ x, foldedSetIterable iter X.env x = pure x := by intro _; rfl) :
    XE X E (.ListComp elt [⟨tg, iter, ifs, 0⟩] scope pos) (eLcF fi (own.map (·.2)) g ft fe) := (pe_lc hc hN hi ok hg ht he hs).imp (lc_w fin_F)
theorem xe_lcP (hc : X.calm = true) (hN : X.N.Nodup) (hi : XI X E tg iter fi) (ok : BlkOk X.N X.env.scope scope own)
    (hg : ∀ (s : Shared) (H : Hp) (C : Addr) (cl : List (Str × Addr)) (fp : List Addr), PG (X.blk s H scope (compEnvC scope cl C X.env) fp) tg (wT X.K (own.map (·.2)) g))
    (ht : ∀ (s : Shared) (H : Hp) (C : Addr) (cl : List (Str × Addr)) (fp : List Addr), PTs (X.blk s H scope (compEnvC scope cl C X.env) fp) ifs (wB X.K E ft))
    (he : ∀ (s : Shared) (H : Hp) (C : Addr) (cl : List (Str × Addr)) (fp : List Addr), PE (X.blk s H scope (compEnvC scope cl C X.env) fp) elt (wE X.K E fe)) (hs : ∀ x, foldedSetIterable iter X.env x = pure x := by intro _; rfl) :
    XE X E (.ListComp elt [⟨tg, iter, ifs, 0⟩] scope pos) (eLcP fi (own.map (·.2)) g ft fe) := (pe_lc hc hN hi ok hg ht he hs).imp (lc_w fin_P)
theorem set_w {te : TE} {f : EF} (h : ∀ σ H Q, wE K E f σ H Q → te σ H Q) : ∀ D σ H, wS K E (sSet i f) D σ H → tAsg te (gName i) D σ H := by
  rintro D σ H ⟨Fz, ι, M, ρ, S, q⟩
  exact h _ _ _ ⟨Fz, ι, M, ρ, S, q.first fun d M1 Fz1 H1 ι1 x g1 R1 ra q1 => q1.nxt ((S.grow g1 R1).set i ra.1 ra.2)⟩
theorem xs_setLcF (hc : X.calm = true) (hN : X.N.Nodup) (hy : X.N[i]? = some y) (hyl : X.env.scope.names.lookup y = some .local)
    (hsw : swapsWith (.ListComp elt [⟨tg, iter, ifs, 0⟩] scope pos) (some (.Name y py)) spos.line X.env = pure true) (hi : XI X E tg iter fi) (ok : BlkOk X.N X.env.scope scope own)
    (hg : ∀ (s : Shared) (H : Hp) (C : Addr) (cl : List (Str × Addr)) (fp : List Addr), PG (X.blk s H scope (compEnvC scope cl C X.env) fp) tg (wT X.K (own.map (·.2)) g))
    (ht : ∀ (s : Shared) (H : Hp) (C : Addr) (cl : List (Str × Addr)) (fp : List Addr), PTs (X.blk s H scope (compEnvC scope cl C X.env) fp) ifs (wB X.K E ft))
    (he : ∀ (s : Shared) (H : Hp) (C : Addr) (cl : List (Str × Addr)) (fp : List Addr), PE (X.blk s H scope (compEnvC scope cl C X.env) fp) elt (wE X.K E fe)) (hs : ∀ x, foldedSetIterable iter X.env x = pure x := by intro _; rfl) :
    XS X E (.Assign [.Name y py] (.ListComp elt [⟨tg, iter, ifs, 0⟩] scope pos) spos) (sSet i (eLcF fi (own.map (·.2)) g ft fe)) := (ps_setLc hc hN hy hyl hsw hi ok hg ht he hs).imp (set_w (lc_w fin_F))
theorem xs_setLcP (hc : X.calm = true) (hN : X.N.Nodup) (hy : X.N[i]? = some y) (hyl : X.env.scope.names.lookup y = some .local)
    (hsw : swapsWith (.ListComp elt [⟨tg, iter, ifs, 0⟩] scope pos) (some (.Name y py)) spos.line X.env = pure true) (hi : XI X E tg iter fi) (ok : BlkOk X.N X.env.scope scope own)
    (hg : ∀ (s : Shared) (H : Hp) (C : Addr) (cl : List (Str × Addr)) (fp : List Addr), PG (X.blk s H scope (compEnvC scope cl C X.env) fp) tg (wT X.K (own.map (·.2)) g))
    (ht : ∀ (s : Shared) (H : Hp) (C : Addr) (cl : List (Str × Addr)) (fp : List Addr), PTs (X.blk s H scope (compEnvC scope cl C X.env) fp) ifs (wB X.K E ft))
    (he : ∀ (s : Shared) (H : Hp) (C : Addr) (cl : List (Str × Addr)) (fp : List Addr), PE (X.blk s H scope (compEnvC scope cl C X.env) fp) elt (wE X.K E fe)) (hs : ∀ x, foldedSetIterable iter X.env x = pure x := by intro _; rfl) :
    XS X E (.Assign [.Name y py] (.ListComp elt [⟨tg, iter, ifs, 0⟩] scope pos) spos) (sSet i (eLcP fi (own.map (·.2)) g ft fe)) := (ps_setLc hc hN hy hyl hsw hi ok hg ht he hs).imp (set_w (lc_w fin_P))
end

/-! ### methods -/
/-- a method's answer on data: the receiver, the arguments -/
def MeS (K : PySem.W.Frag) (E : XK) (T : String) (r : V → List V → Hp → VK → Prop) (op : D → List D → Mem → Fl D) : Prop :=
  ∀ Fz H ι M a l x vs Q, Rel K Fz H ι M → bnd M.length a → bndL M.length l → RepV K Fz ι a x → RepL K Fz ι l vs → Post K E Fz H ι M.length (RD K) Q (op a l M) → r x vs H Q
/-- the receiver is of the type T -/
def tyM (T : String) (a : D) (M : Mem) : Prop := match a with
  | .str _ => T = "str"
  | .int _ => T = "int"
  | .lst _ => T = "list"
  | .ptr k => match M[k]? with
    | some (.lst _) => T = "list"
    | some (.dK _) => T = "dict"
    | some (.dT _) => T = "dict"
    | _ => False
  | _ => False
noncomputable instance (T : String) (a : D) (M : Mem) : Decidable (tyM T a M) := Classical.propDecidable _
noncomputable def eMt (T : String) (op : D → List D → Mem → Fl D) (fo : EF) (fa : AF) : EF := fun ρ M => (fo ρ M).bind fun a M1 => if tyM T a M1 then (fa ρ M1).bind fun l M2 => op a l M2 else .fail
section
variable {X : Cx} {E : XK} {K : PySem.W.Frag} {o e : Expr} {es : List Expr} {fo : EF} {fa : AF} {name : Str} {apos cpos : Pos} {T id : String} {r : V → List V → Hp → VK → Prop} {op : D → List D → Mem → Fl D}
theorem tyM_ok {Fz H : Hp} {ι : Nat → Addr} {M : Mem} {a : D} {x : V} (R : Rel K Fz H ι M) (ra : RepV K Fz ι a x) (h : tyM T a M) : tyV K T x H := by
  cases a with
  | str z =>
    have ra : x = _ := ra
    subst ra
    exact h
  | int z =>
    have ra : x = _ := ra
    subst ra
    exact h
  | lst l =>
    obtain ⟨p, vs, ex, hs, _⟩ := ra
    subst ex
    exact .inl ⟨h, vs, SqL.of (R.fz _ _ hs)⟩
  | ptr k =>
    have ra : x = _ := ra
    subst ra
    unfold tyM at h
    dsimp only at h
    split at h
    · rename_i l e
      obtain ⟨_, vs, e1, _⟩ := R.ob k _ e
      exact .inl ⟨h, vs, SqL.of e1⟩
    · rename_i l e
      obtain ⟨_, vs, e1, _⟩ := R.ob k _ e
      exact .inr (.inr (.inl ⟨h, .inl ⟨vs, e1⟩⟩))
    · rename_i l e
      obtain ⟨_, vs, e1, _⟩ := R.ob k _ e
      exact .inr (.inr (.inl ⟨h, .inr ⟨vs, e1⟩⟩))
    · exact h.elim
  | _ => exact h.elim
theorem xe_bm (pa : PlainAttrs T) (slot : Slot T name id) (hty : typeOf (.builtin id) = pure (.type "method_descriptor")) (hm : MtR X id r) (hs : MeS X.K E T r op) (ho : XE X E o fo) (ha : XA X E (e :: es) fa)
    (hbase : attributeBase o name X.env (eval o X.env) = eval o X.env := by rfl)
    (hfew : ((backTo cpos (starEach (e :: es) X.env)).all (fun x => !x.1) && (backToKw cpos (keywordEach [] X.env)).all (fun x => x.1.isSome)
      && decide ((e :: es).length + ([] : List Keyword).length + (if ([] : List Keyword).isEmpty then 0 else 1) < 30)) = true := by rfl)
    (hline : (apos.endLine == cpos.line) = true := by rfl) (hst : starEach (e :: es) X.env = (false, eval e X.env) :: starEach es X.env := by rfl) (hplain : (backTo cpos (starEach es X.env)).any (·.1) = false := by rfl) :
    XE X E (.Call (.Attribute o name apos) (e :: es) [] cpos) (eMt T op fo fa) := (pe_bm pa slot hty hm ho ha hbase hfew hline hst hplain).imp (by
  rintro σ H Q ⟨Fz, ι, M, ρ, S, q⟩
  refine ⟨Fz, ι, M, ρ, S, q.first fun a M1 Fz1 H1 ι1 x g1 R1 ra q1 => ?_⟩
  split at q1
  · rename_i ty
    refine ⟨tyM_ok R1 ra.2 ty, Fz1, ι1, M1, ρ, S.grow g1 R1, q1.first fun l M2 Fz2 H2 ι2 vs g2 R2 rb q2 => ?_⟩
    exact hs Fz2 H2 ι2 M2 a l x vs Q R2 (bnd.up g2.le a ra.1) rb.1 (g2.rep ra.1 ra.2) rb.2 q2
  · exact q1.elim)
theorem xe_bm0 (pa : PlainAttrs T) (slot : Slot T name id) (hty : typeOf (.builtin id) = pure (.type "method_descriptor")) (hm : MtR X id r) (hs : MeS X.K E T r op) (ho : XE X E o fo)
    (hbase : attributeBase o name X.env (eval o X.env) = eval o X.env := by rfl) (hline : (apos.endLine == cpos.line) = true := by rfl) : XE X E (.Call (.Attribute o name apos) [] [] cpos) (eMt T op fo aNil) := (pe_bm0 pa slot hty hm ho hbase hline).imp (by
  rintro σ H Q ⟨Fz, ι, M, ρ, S, q⟩
  refine ⟨Fz, ι, M, ρ, S, q.first fun a M1 Fz1 H1 ι1 x g1 R1 ra q1 => ?_⟩
  split at q1
  · rename_i ty
    exact ⟨tyM_ok R1 ra.2 ty, hs Fz1 H1 ι1 M1 a [] x [] Q R1 ra.1 trivial ra.2 rfl q1⟩
  · exact q1.elim)
/-- xs.append(e) -/
def appD (a : D) (l : List D) (M : Mem) : Fl D := match a, l with
  | .ptr k, [d] => match M[k]? with
    | some (.lst l) => if l.length < 1000000 then .ok .non (M.set k (.lst (l ++ [d]))) else .fail
    | _ => .fail
  | _, _ => .fail
theorem wr_lst {Fz H : Hp} {ι : Nat → Addr} {M : Mem} {k : Nat} {l l' : List D} {ws' : List V} (R : Rel K Fz H ι M) (e : M[k]? = some (.lst l)) (b : bndL M.length l') (r : RepL K Fz ι l' ws') :
    Rel K Fz (upd H (ι k) (.lst ws')) ι (M.set k (.lst l')) ∧ Grow Fz H ι M.length Fz (upd H (ι k) (.lst ws')) ι (M.set k (.lst l')).length :=
  R.write (mo := .lst l') (List.getElem?_eq_some_iff.mp e).1 (R.ob k _ e).1 b ⟨(R.ob k _ e).1, ws', upd_same, r⟩
theorem ms_append : MeS K E "list" rAppend appD := by
  intro Fz H ι M a l x vs Q R ba bl ra rl q
  unfold appD at q
  split at q
  · rename_i k d
    obtain ⟨y, ev, ry⟩ := rl.one
    have ra : x = _ := ra
    subst ra ev
    split at q
    · rename_i l e
      split at q
      · rename_i hl
        obtain ⟨_, ws, e1, rw⟩ := R.ob k _ e
        refine ⟨ι k, ws, y, rfl, rfl, e1, by rw [← rw.len]; exact small6' hl, ?_⟩
        obtain ⟨R2, g2⟩ := wr_lst (l' := l ++ [d]) (ws' := ws ++ [y]) R e (bndL_append.mpr ⟨R.wf k _ e, bl.1, trivial⟩) (rw.append ⟨y, [], rfl, ry, rfl⟩)
        exact q _ _ _ _ g2 R2 ⟨trivial, rfl⟩
      · exact q.elim
    · exact q.elim
  · exact q.elim
/-- xs.pop() -/
def popD (a : D) (l : List D) (M : Mem) : Fl D := match a, l with
  | .ptr k, [] => match M[k]? with
    | some (.lst l) => match l[l.length - 1]? with
      | some d => .ok d (M.set k (.lst l.dropLast))
      | none => .fail
    | _ => .fail
  | _, _ => .fail
theorem RepL.dropLast {Fz : Hp} {ι : Nat → Addr} {l : List D} {vs : List V} (r : RepL K Fz ι l vs) : RepL K Fz ι l.dropLast vs.dropLast := by
  rw [List.dropLast_eq_take, List.dropLast_eq_take, ← r.len]
  exact r.take _
theorem bndL_take {n i : Nat} {l : List D} (b : bndL n l) : bndL n (l.take i) := bndL_iff.mpr fun d hd => bndL_iff.mp b d (List.mem_of_mem_take hd)
theorem bndL_drop {n i : Nat} {l : List D} (b : bndL n l) : bndL n (l.drop i) := bndL_iff.mpr fun d hd => bndL_iff.mp b d (List.mem_of_mem_drop hd)
theorem ms_pop : MeS K E "list" rPop popD := by
  intro Fz H ι M a l x vs Q R ba bl ra rl q
  unfold popD at q
  split at q
  · rename_i k
    have ra : x = _ := ra
    have rl : vs = [] := rl
    subst ra rl
    split at q
    · rename_i l e
      split at q
      · rename_i d hd
        obtain ⟨_, ws, e1, rw⟩ := R.ob k _ e
        obtain ⟨v, hv, rv⟩ := rw.get hd
        rw [rw.len] at hv
        have bw : bndL M.length l := R.wf k _ e
        refine ⟨ι k, ws, v, rfl, rfl, e1, hv, ?_⟩
        obtain ⟨R2, g2⟩ := wr_lst (l' := l.dropLast) (ws' := ws.dropLast) R e (by rw [List.dropLast_eq_take]; exact bndL_take bw) rw.dropLast
        exact q _ _ _ _ g2 R2 ⟨bnd.up g2.le d (bndL_get bw hd), rv⟩
      · exact q.elim
    · exact q.elim
  · exact q.elim
/-- texts -/
def splitD (a : D) (l : List D) (M : Mem) : Fl D := match a, l with
  | .str x, [.str y] => if (y.length == 0) = false ∧ x.length ≤ 1000000 then .ok (.lst ((Txt.split x y).map .str)) M else .fail
  | _, _ => .fail
theorem ms_split : MeS K E "str" (fun x xs H Q => ∃ a b, x = .str a ∧ xs = [.str b] ∧ (b.length == 0) = false ∧ a.length + 2 ≤ sizeLine ∧ rNewStrs (Txt.split a b) H Q) splitD := by
  intro Fz H ι M a l x vs Q R ba bl ra rl q
  unfold splitD at q
  split at q
  · rename_i s t
    obtain ⟨y, ev, ry⟩ := rl.one
    have ra : x = _ := ra
    have ry : y = _ := ry
    subst ra ev ry
    split at q
    · rename_i h
      have hs : s.length + 2 ≤ sizeLine := by
        have := sizeLine_eq
        omega
      refine ⟨s, t, rfl, rfl, h.1, hs, fun p hp => ?_⟩
      obtain ⟨R2, g2⟩ := R.laid (o := .lst ((Txt.split s t).map V.str)) hp
      exact q _ _ _ _ g2 R2 ⟨bndL_strs _, p, _, rfl, upd_same, RepL.of_strs _ _ _ _⟩
    · exact q.elim
  · exact q.elim
/-- the texts of a list, where all are texts -/
def strsOf : List D → Option (List Str)
  | [] => some []
  | .str x :: l => (strsOf l).map fun r => x :: r
  | _ :: _ => none
theorem strsOf_map : ∀ {l : List D} {xs : List Str}, strsOf l = some xs → l = xs.map .str
  | [], _, h => by
    cases h
    rfl
  | .str x :: l, _, h => by
    unfold strsOf at h
    cases e : strsOf l with
    | none => rw [e] at h; cases h
    | some r =>
      rw [e] at h
      cases h
      rw [strsOf_map e]
      rfl
  | .non :: l, _, h => by cases h
  | .bl _ :: l, _, h => by cases h
  | .int _ :: l, _, h => by cases h
  | .tup _ :: l, _, h => by cases h
  | .lst _ :: l, _, h => by cases h
  | .scr _ :: l, _, h => by cases h
  | .ptr _ :: l, _, h => by cases h
@[simp] theorem strsOf_strs : ∀ xs : List Str, strsOf (xs.map .str) = some xs
  | [] => rfl
  | x :: xs => by
    show (strsOf (xs.map .str)).map _ = _
    rw [strsOf_strs xs]
    rfl
def joinD (a : D) (l : List D) (M : Mem) : Fl D := match a, l with
  | .str x, [d] => match itemsD M d with
    | some l => match strsOf l with
      | some ys => if (ys.map (·.length)).sum + ys.length * x.length ≤ 1000000 then .ok (.str (Txt.join x ys)) M else .fail
      | none => .fail
    | none => .fail
  | _, _ => .fail
def rJoin (K : PySem.W.Frag) : V → List V → Hp → VK → Prop := fun x xs H Q => ∃ a p, ∃ ys : List Str, x = .str a ∧ xs = [.ref p] ∧ (SqL K H p (ys.map V.str) ∨ SqT K H p (ys.map V.str)) ∧
    (ys.map (·.length)).sum + ys.length * a.length ≤ 16777216 ∧ Q (.str (Txt.join a ys)) H
theorem mr_join : MtR X "str.join" (rJoin X.K) := mt_join
theorem ms_join : MeS K E "str" (rJoin K) joinD := by
  intro Fz H ι M a l x vs Q R ba bl ra rl q
  unfold joinD at q
  split at q
  · rename_i s d
    obtain ⟨y, ev, ry⟩ := rl.one
    have ra : x = _ := ra
    subst ra ev
    split at q
    · rename_i l e
      split at q
      · rename_i ys e2
        split at q
        · rename_i h
          obtain ⟨_, p, ws, ex, hs, rw, _⟩ := items_ok R bl.1 ry e
          subst ex
          have e3 := strsOf_map e2
          subst e3
          have e4 := rw.strs
          subst e4
          exact ⟨s, p, ys, rfl, rfl, hs, by omega, q.now R ⟨trivial, rfl⟩⟩
        · exact q.elim
      · exact q.elim
    · exact q.elim
  · exact q.elim
def startsD (a : D) (l : List D) (M : Mem) : Fl D := match a, l with
  | .str x, [.str y] => .ok (.bl (Txt.startswith x y)) M
  | _, _ => .fail
theorem ms_starts : MeS K E "str" (fun x xs H Q => ∃ a b, x = .str a ∧ xs = [.str b] ∧ Q (.bl (Txt.startswith a b)) H) startsD := by
  intro Fz H ι M a l x vs Q R ba bl ra rl q
  unfold startsD at q
  split at q
  · rename_i s t
    obtain ⟨y, ev, ry⟩ := rl.one
    have ra : x = _ := ra
    have ry : y = _ := ry
    subst ra ev ry
    exact ⟨s, t, rfl, rfl, q.now R ⟨trivial, rfl⟩⟩
  · exact q.elim
def findD (a : D) (l : List D) (M : Mem) : Fl D := match a, l with
  | .str x, [.str y] => .ok (.int (Txt.find x y)) M
  | _, _ => .fail
theorem ms_find : MeS K E "str" (fun x xs H Q => ∃ a b, x = .str a ∧ xs = [.str b] ∧ Q (.int (Txt.find a b)) H) findD := by
  intro Fz H ι M a l x vs Q R ba bl ra rl q
  unfold findD at q
  split at q
  · rename_i s t
    obtain ⟨y, ev, ry⟩ := rl.one
    have ra : x = _ := ra
    have ry : y = _ := ry
    subst ra ev ry
    exact ⟨s, t, rfl, rfl, q.now R ⟨trivial, rfl⟩⟩
  · exact q.elim
end

/-! ### a[i] = e -/
/-- the order: the value, the list, the index -/
def sSetIx (fo fi fe : EF) : SF := fun ρ M => (fe ρ M).bind fun d M1 => (fo ρ M1).bind fun a M2 => (fi ρ M2).bind fun i M3 => match a, i with
  | .ptr k, .int z => match M3[k]? with
    | some (.lst l) => match ixN l.length z with
      | some j => .ok (.nx ρ) (M3.set k (.lst (l.set j d)))
      | none => .fail
    | _ => .fail
  | _, _ => .fail
section
variable {X : Cx} {E : XK} {K : PySem.W.Frag} {o i e : Expr} {fo fi fe : EF} {pos tpos : Pos}
theorem xs_setIx (ho : XE X E o fo) (hi : XE X E i fi) (he : XE X E e fe) (hs : swapsWithSole [.Subscript o i tpos] e pos.line X.env = pure false := by rfl) (hw : swappedStores [.Subscript o i tpos] e X.env = pure none := by rfl)
    (h1 : (assignEach [.Subscript o i tpos] X.env).map (·.2) = [assign (.Subscript o i tpos) X.env] := by rfl)
    (ha : ∀ v, assign (.Subscript o i tpos) X.env v = (do
      let ov ← holding [v] (eval o X.env)
      let iv ← holding [v, ov] (eval i X.env)
      standAt tpos
      holding [v, ov, iv] (setItem ov iv v)
      release [v, ov, iv] []) := by intro _; rfl) : XS X E (.Assign [.Subscript o i tpos] e pos) (sSetIx fo fi fe) := (ps_asg he (pg_sub ho hi set_list ha) hs hw h1).imp (by
  rintro D σ H ⟨Fz, ι, M, ρ, S, q⟩
  refine ⟨Fz, ι, M, ρ, S, q.first fun d M1 Fz1 H1 ι1 x g1 R1 rd q1 => ?_⟩
  refine ⟨Fz1, ι1, M1, ρ, S.grow g1 R1, q1.first fun a M2 Fz2 H2 ι2 y g2 R2 ra q2 => ?_⟩
  refine ⟨Fz2, ι2, M2, ρ, S.grow (g1.trans g2) R2, q2.first fun b M3 Fz3 H3 ι3 z g3 R3 rb q3 => ?_⟩
  have rd3 := (g2.trans g3).rep rd.1 rd.2
  have bd3 := bnd.up (g2.trans g3).le d rd.1
  have ra3 := g3.rep ra.1 ra.2
  cases a with
  | ptr k =>
    cases b with
    | int j =>
      dsimp only at q3
      split at q3
      · rename_i l e
        split at q3
        · rename_i m hm
          obtain ⟨_, ws, e1, rw⟩ := R3.ob k _ e
          have ra3 : y = _ := ra3
          have rb3 : z = _ := rb.2
          subst ra3 rb3
          refine ⟨ι3 k, ws, j, m, rfl, rfl, e1, by rw [← rw.len]; exact hm, ?_⟩
          obtain ⟨R4, g4⟩ := wr_lst (l' := l.set m d) (ws' := ws.set m x) R3 e (bndL_set (R3.wf k _ e) bd3) (rw.set m rd3)
          exact q3 _ _ _ _ g4 ((S.grow (((g1.trans g2).trans g3).trans g4) R4))
        · exact q3.elim
      · exact q3.elim
    | _ => exact q3.elim
  | _ => cases b <;> exact q3.elim)
end

/-! ### slices -/
abbrev OF := Ro → Mem → Fl (Option Int)
def RO : Hp → (Nat → Addr) → Nat → Option Int → Option Int → Prop := fun _ _ _ b c => c = b
def wO (K : PySem.W.Frag) (E : XK) (f : OF) : TO := fun σ H Q => ∃ Fz ι M ρ, Sim K Fz H ι M ρ σ ∧ Post K E Fz H ι M.length RO Q (f ρ M)
theorem _root_.L2.PO.imp {X : Cx} {e : Option Expr} {t t' : TO} (h : PO X e t) (i : ∀ σ H Q, t' σ H Q → t σ H Q) : PO X e t' := ⟨fun pins s σ H Q I q => h.run pins s σ H Q I (i σ H Q q)⟩
def oNo : OF := fun _ M => .ok none M
def oIx (f : EF) : OF := fun ρ M => (f ρ M).bind fun d M1 => match d with
  | .int i => .ok (some i) M1
  | _ => .fail
/-- xs[a:b] of a list (a new one that stands for good), a text -/
def cutL (xs : List D) (lo hi : Option Int) : List D := (xs.drop (HT.sIx xs.length 0 lo)).take (HT.sIx xs.length xs.length hi - HT.sIx xs.length 0 lo)
def eSl (fe : EF) (fl fh : OF) : EF := fun ρ M => (fe ρ M).bind fun d M1 => (fl ρ M1).bind fun l M2 => (fh ρ M2).bind fun h M3 => match d with
  | .str z => if z.length ≤ 1000000 then .ok (.str (cutS z l h)) M3 else .fail
  | .tup _ => .fail
  | d => match itemsD M3 d with
    | some xs => .ok (.lst (cutL xs l h)) M3
    | none => .fail
section
variable {X : Cx} {E : XK} {K : PySem.W.Frag} {e : Expr} {fe : EF} {fl fh : OF} {lo hi : Option Expr} {pos p2 : Pos}
theorem xo_none : PO X none (wO X.K E oNo) := po_none.imp (by
  rintro σ H Q ⟨Fz, ι, M, ρ, S, q⟩
  exact q.now S.rel rfl)
theorem xo_some (h : XE X E e fe) : PO X (some e) (wO X.K E (oIx fe)) := (po_some h).imp (by
  rintro σ H Q ⟨Fz, ι, M, ρ, S, q⟩
  refine ⟨Fz, ι, M, ρ, S, q.first fun d M1 Fz1 H1 ι1 x g1 R1 rd q1 => ?_⟩
  cases d with
  | int i => exact ⟨i, rd.2, q1.now R1 rfl⟩
  | _ => exact q1.elim)
theorem RepL.cut {Fz : Hp} {ι : Nat → Addr} {l : List D} {vs : List V} (r : RepL K Fz ι l vs) (lo hi : Option Int) : RepL K Fz ι (cutL l lo hi) (cutV vs lo hi) := by
  unfold cutL cutV
  rw [← r.len]
  exact (r.drop _).take _
def rSlA (K : PySem.W.Frag) : V → Option Int → Option Int → Hp → VK → Prop := fun x lo hi H Q => rSlL K x lo hi H Q ∨ ∃ z, x = .str z ∧ z.length ≤ sizeLine ∧ Q (.str (cutS z lo hi)) H
theorem sl_any : SlR X (rSlA X.K) := by
  intro pins s σ H x v vl vu lo hi sl Q I rx hs pl pu h
  rcases h with h | h
  · exact sl_list pins s σ H x v vl vu lo hi sl Q I rx hs pl pu h
  · exact sl_str pins s σ H x v vl vu lo hi sl Q I rx hs pl pu h
theorem xe_sl (he : XE X E e fe) (hl : PO X lo (wO X.K E fl)) (hh : PO X hi (wO X.K E fh)) : XE X E (.Subscript e (.Slice lo hi none p2) pos) (eSl fe fl fh) := (pe_slice sl_any he hl hh).imp (by
  rintro σ H Q ⟨Fz, ι, M, ρ, S, q⟩
  refine ⟨Fz, ι, M, ρ, S, q.first fun d M1 Fz1 H1 ι1 x g1 R1 rd q1 => ?_⟩
  refine ⟨Fz1, ι1, M1, ρ, S.grow g1 R1, q1.first fun l M2 Fz2 H2 ι2 y g2 R2 ra q2 => ?_⟩
  refine ⟨Fz2, ι2, M2, ρ, S.grow (g1.trans g2) R2, q2.first fun h M3 Fz3 H3 ι3 z g3 R3 rb q3 => ?_⟩
  have ra : y = l := ra
  have rb : z = h := rb
  subst ra rb
  have rd3 := (g2.trans g3).rep rd.1 rd.2
  have bd3 := bnd.up (g2.trans g3).le d rd.1
  have seq : ∀ {xs}, itemsD M3 d = some xs → (¬ ∃ l', d = .tup l') → Post X.K E Fz3 H3 ι3 M3.length (RD X.K) Q (.ok (.lst (cutL xs y z)) M3) → rSlA X.K x y z H3 Q := fun {xs} e nt q => by
    obtain ⟨bl, p, ws, ex, _, rw, hl⟩ := items_ok R3 bd3 rd3 e
    rcases hl with hl | hl
    · exact absurd hl nt
    · refine .inl ⟨p, ws, ex, hl, fun p2 hp2 => ?_⟩
      obtain ⟨R4, g4⟩ := R3.laid (o := .lst (cutV ws y z)) hp2
      have bc : bndL M3.length (cutL xs y z) := bndL_take (bndL_drop bl)
      exact q _ _ _ _ g4 R4 ⟨bc, p2, _, rfl, upd_same, g4.repL bc (rw.cut y z)⟩
  cases d with
  | str s =>
    dsimp only at q3
    split at q3
    · rename_i hz
      exact .inr ⟨s, rd3, small6 hz, q3.now R3 ⟨trivial, rfl⟩⟩
    · exact q3.elim
  | tup l => exact q3.elim
  | lst l => exact seq (xs := l) rfl (fun ⟨_, z⟩ => by cases z) q3
  | scr l => exact seq (xs := l) rfl (fun ⟨_, z⟩ => by cases z) q3
  | ptr k =>
    dsimp only at q3
    cases e : itemsD M3 (.ptr k) with
    | none => rw [e] at q3; exact q3.elim
    | some xs => rw [e] at q3; exact seq e (fun ⟨_, z⟩ => by cases z) q3
  | _ => exact q3.elim)
end
end MM

/-! MMg: defs that change nothing of their callers' (pure ones), their calls; a law's end. -/
namespace MM
open PySem PySem.Spec PyProof.Rows L2

inductive Pr where
  | ok (d : D) | exc (e : Exc) | fail
abbrev PF := List D → Pr
def Pr.fl : Pr → Fl D
  | .ok d => .ok d []
  | .exc e => .exc e []
  | .fail => .fail
def i0 : Nat → Addr := fun _ => 0
/-- a pure def's promise: m its parameters' number -/
def spP (K : PySem.W.Frag) (m : Nat) (G : PF) : Sp := fun vs H Q E => ∃ Fz ds, (∀ a o, Fz a = some o → H a = some o) ∧ ds.length = m ∧ bndL 0 ds ∧ RepL K Fz i0 ds vs ∧ Post K E Fz H i0 0 (RD K) Q (G ds).fl
theorem spP_len {K : PySem.W.Frag} {m : Nat} {G : PF} {vs : List V} {H : Hp} {Q : VK} {E : XK} (h : spP K m G vs H Q E) : vs.length = m := by
  obtain ⟨Fz, ds, _, hl, _, r, _⟩ := h
  rw [← r.len, hl]

/-! ### what a caller gets back -/
section
variable {K : PySem.W.Frag} {E : XK} {Fz H Fz' H' : Hp} {ι ι' : Nat → Addr} {M : Mem}
theorem Rel.none (h : ∀ a o, Fz a = some o → H a = some o) (ι : Nat → Addr) : Rel K Fz H ι [] :=
  ⟨h, fun k mo e => by simp at e, fun k mo e => by simp at e, fun k hk => absurd hk (Nat.not_lt_zero _), fun i j hi => absurd hi (Nat.not_lt_zero _)⟩
theorem ObM.keep0 {M : Mem} (R : Rel K Fz H ι M) {k : Nat} {mo : MO} (e : M[k]? = some mo) (hF : ∀ a o, Fz a = some o → Fz' a = some o) (hF0 : Fz (ι k) = Option.none → Fz' (ι k) = Option.none) (hH : ∀ o, H (ι k) = some o → H' (ι k) = some o) : ObM K Fz' H' ι (ι k) mo := by
  have ob := R.ob k mo e
  have wf := R.wf k mo e
  cases mo with
  | lst l =>
    obtain ⟨q0, vs, q1, q2⟩ := ob
    exact ⟨hF0 q0, vs, hH _ q1, RepL.up hF (fun _ _ => rfl) _ _ wf q2⟩
  | dK l =>
    obtain ⟨q0, vs, q1, q2⟩ := ob
    exact ⟨hF0 q0, vs, hH _ q1, RepP.up hF (fun _ _ => rfl) _ _ wf q2⟩
  | dT l =>
    obtain ⟨q0, vs, q1, q2⟩ := ob
    exact ⟨hF0 q0, vs, hH _ q1, RepP.up hF (fun _ _ => rfl) _ _ wf q2⟩
  | ins C l =>
    obtain ⟨q0, dx, vs, q1, q2⟩ := ob
    exact ⟨hF0 q0, dx, vs, hH _ q1, RepP.up hF (fun _ _ => rfl) _ _ wf q2⟩
  | gone => trivial
theorem pure_back (R : Rel K Fz H ι M) (g : Grow Fz H i0 0 Fz' H' ι' 0) (R' : Rel K Fz' H' ι' []) : Rel K Fz' H' ι M ∧ Grow Fz H ι M.length Fz' H' ι M.length := by
  have keep : ∀ a o, H a = some o → H' a = some o := fun a o e => g.fr a o e fun k hk => absurd hk (Nat.not_lt_zero _)
  refine ⟨⟨R'.fz, fun k mo e => ObM.keep0 R e g.fz (fun h0 => ?_) fun o h => keep _ o h, R.wf, fun k hk => g.th _ (R.occ k hk), R.inj⟩,
    ⟨g.fz, fun _ _ => rfl, Nat.le_refl _, fun k h1 h2 => absurd h2 (by omega), fun a o e _ => keep a o e, g.th, fun a h => ?_⟩⟩
  · cases e2 : Fz' (ι k) with
    | none => rfl
    | some u =>
      rcases g.fn (ι k) (by rw [e2]; exact fun z => by cases z) with z | z | ⟨j, hj, _⟩
      · exact absurd h0 z
      · exact absurd z (R.occ k (List.getElem?_eq_some_iff.mp e).1)
      · exact absurd hj (Nat.not_lt_zero _)
  · rcases g.fn a h with z | z | ⟨j, hj, _⟩
    · exact .inl z
    · exact .inr (.inl z)
    · exact absurd hj (Nat.not_lt_zero _)
theorem rep_bnd0 : (∀ d v, bnd 0 d → RepV K Fz ι d v → RepV K Fz ι' d v) ∧ ∀ l vs, bndL 0 l → RepL K Fz ι l vs → RepL K Fz ι' l vs :=
  ⟨fun d v b r => RepV.up (n := 0) (fun _ _ e => e) (fun k hk => absurd hk (Nat.not_lt_zero _)) d v b r, fun l vs b r => RepL.up (n := 0) (fun _ _ e => e) (fun k hk => absurd hk (Nat.not_lt_zero _)) l vs b r⟩
end
/-- nothing that changes stands in it -/
noncomputable instance (n : Nat) (l : List D) : Decidable (bndL n l) := Classical.propDecidable _
noncomputable instance (n : Nat) (d : D) : Decidable (bnd n d) := Classical.propDecidable _
noncomputable def eCall (m : Nat) (G : PF) (fa : AF) : EF := fun ρ M => (fa ρ M).bind fun ds M1 => if ds.length = m ∧ bndL 0 ds then match G ds with
    | .ok d => if bnd 0 d then .ok d M1 else .fail
    | .exc _ => .fail
    | .fail => .fail
  else .fail
section
variable {X : Cx} {E : XK} {CX : CXT} {k m : Nat} {f : Addr} {fd : FuncData} {ps : List Str} {G : PF} {x : Str} {p pos : Pos} {e : Expr} {es : List Expr} {fa : AF}
theorem call_w {K : PySem.W.Frag} : ∀ σ H Q, wE K E (eCall m G fa) σ H Q → tCall (spP K m G) [] E (wA K E fa) σ H Q := by
  rintro σ H Q ⟨Fz, ι, M, ρ, S, q⟩
  refine ⟨Fz, ι, M, ρ, S, q.first fun ds M1 Fz1 H1 ι1 vs g1 R1 rd q1 => ?_⟩
  split at q1
  · rename_i h
    refine ⟨Fz1, ds, R1.fz, h.1, h.2, by rw [List.append_nil]; exact rep_bnd0.2 _ _ h.2 rd.2, ?_⟩
    cases e : G ds with
    | fail => rw [e] at q1; exact q1.elim
    | exc x => rw [e] at q1; exact q1.elim
    | ok d =>
      rw [e] at q1
      dsimp only at q1
      split at q1
      · rename_i hb
        intro Fz2 H2 ι2 v g2 R2 rv
        obtain ⟨R3, g3⟩ := pure_back R1 g2 R2
        exact q1 Fz2 H2 ι1 v g3 R3 ⟨bnd.up (Nat.zero_le _) d hb, rep_bnd0.1 d v hb rv.2⟩
      · exact q1.elim
  · exact q1.elim
theorem xe_call (F : FnOk X.prog X.w X.K X.mg X.base CX k f fd ps (spP X.K m G)) (hr : Room k X.A) (hm : X.mg x = some (.ref f)) (hk : PySem.W.keepIn X.K (.ref f) = true) (hb : Binds X.K fd ps []) (hx : Passes CX X E) (ha : XA X E (e :: es) fa)
    (hg : Gl X x := by rfl) (hdb : (x == ("__debug__" : Str)) = false := by decide) (he : starEach (e :: es) X.env = (false, eval e X.env) :: starEach es X.env := by rfl) (hpl : (backTo pos (starEach es X.env)).any (·.1) = false := by rfl) :
    XE X E (.Call (.Name x p) (e :: es) [] pos) (eCall m G fa) := (pe_call F hr hg hm hk hb .nil hx ha hdb he hpl).imp call_w
theorem xe_call0 (F : FnOk X.prog X.w X.K X.mg X.base CX k f fd ps (spP X.K m G)) (hr : Room k X.A) (hm : X.mg x = some (.ref f)) (hk : PySem.W.keepIn X.K (.ref f) = true) (hb : Binds X.K fd ps []) (hx : Passes CX X E)
    (hg : Gl X x := by rfl) (hdb : (x == ("__debug__" : Str)) = false := by decide) : XE X E (.Call (.Name x p) [] [] pos) (eCall m G aNil) := (pe_call0 F hr hg hm hk hb .nil hx hdb).imp (by
  intro σ H Q h
  obtain ⟨Fz, ι, M, ρ, S, q⟩ := call_w (K := X.K) σ H Q h
  exact q.now S.rel ⟨trivial, rfl⟩)
end

/-! ### all that a def has made stands for good -/
noncomputable def frzL (f : D → Option D) : List D → Option (List D)
  | [] => some []
  | d :: l => (f d).bind fun d' => (frzL f l).map fun l' => d' :: l'
noncomputable def frz (M : Mem) : Nat → D → Option D
  | 0, d => if bnd 0 d then some d else none
  | n + 1, d => if bnd 0 d then some d else match d with
    | .ptr k => match M[k]? with
      | some (.lst l) => (frzL (frz M n) l).map .lst
      | _ => none
    | .tup l => (frzL (frz M n) l).map .tup
    | .lst l => (frzL (frz M n) l).map .lst
    | _ => none
section
variable {K : PySem.W.Frag} {E : XK} {Fz H Fz' H' : Hp} {ι ι' : Nat → Addr} {M : Mem}
/-- the heap of what stands, with all of the memory -/
noncomputable def allFz (Fz H : Hp) (ι : Nat → Addr) (n : Nat) : Hp := fun a => if ∃ k, k < n ∧ ι k = a then H a else Fz a
theorem allFz_sub (R : Rel K Fz H ι M) : ∀ a o, allFz Fz H ι M.length a = some o → H a = some o := fun a o e => by
  unfold allFz at e
  split at e
  · exact e
  · exact R.fz a o e
theorem allFz_up (R : Rel K Fz H ι M) : ∀ a o, Fz a = some o → allFz Fz H ι M.length a = some o := fun a o e => by
  unfold allFz
  split
  · exact R.fz a o e
  · exact e
theorem allFz_at (R : Rel K Fz H ι M) {k : Nat} (h : k < M.length) : allFz Fz H ι M.length (ι k) = H (ι k) := by
  unfold allFz
  rw [if_pos ⟨k, h, rfl⟩]
mutual
theorem bnd0_of_rep : ∀ (d : D), True := fun _ => trivial
end
theorem frzL_ok {f : D → Option D} {P : D → D → Prop} (hf : ∀ d d', f d = some d' → P d d') : ∀ (l l' : List D), frzL f l = some l' → Paired P l l'
  | [], _, h => by
    cases h
    exact .nil
  | d :: l, _, h => by
    unfold frzL at h
    cases e1 : f d with
    | none => rw [e1] at h; cases h
    | some d' =>
      cases e2 : frzL f l with
      | none => rw [e1, e2] at h; cases h
      | some l' =>
        rw [e1, e2] at h
        cases h
        exact .cons (hf d d' e1) (frzL_ok hf l l' e2)
theorem paired_rep {P : D → D → Prop} {Fz2 : Hp} {ι2 : Nat → Addr} (hp : ∀ d d', P d d' → bnd 0 d' ∧ ∀ v, RepV K Fz ι d v → RepV K Fz2 ι2 d' v) : ∀ {l l' : List D}, Paired P l l' → bndL 0 l' ∧ ∀ vs, RepL K Fz ι l vs → RepL K Fz2 ι2 l' vs
  | _, _, .nil => ⟨trivial, fun vs r => r⟩
  | _, _, .cons h t => by
    obtain ⟨h1, h2⟩ := hp _ _ h
    obtain ⟨t1, t2⟩ := paired_rep hp t
    exact ⟨⟨h1, t1⟩, fun vs ⟨v, r, e, q, q'⟩ => ⟨v, r, e, h2 v q, t2 r q'⟩⟩
theorem frz_ok (R : Rel K Fz H ι M) : ∀ (n : Nat) (d d' : D), frz M n d = some d' → bnd 0 d' ∧ ∀ v, RepV K Fz ι d v → RepV K (allFz Fz H ι M.length) i0 d' v := by
  have base : ∀ (d d' : D), bnd 0 d → some d = some d' → bnd 0 d' ∧ ∀ v, RepV K Fz ι d v → RepV K (allFz Fz H ι M.length) i0 d' v := fun d d' b e => by
    have e := Option.some.inj e
    subst e
    exact ⟨b, fun v r => RepV.up (n := 0) (allFz_up R) (fun k hk => absurd hk (Nat.not_lt_zero _)) d v b r⟩
  intro n
  induction n with
  | zero =>
    intro d d' h
    unfold frz at h
    split at h
    · rename_i b
      exact base d d' b h
    · cases h
  | succ n ih =>
    intro d d' h
    unfold frz at h
    split at h
    · rename_i b
      exact base d d' b h
    · cases d with
      | ptr k =>
        dsimp only at h
        split at h
        · rename_i l e
          cases e2 : frzL (frz M n) l with
          | none => rw [e2] at h; cases h
          | some l' =>
            rw [e2] at h
            cases h
            obtain ⟨t1, t2⟩ := paired_rep ih (frzL_ok (P := fun d d' => frz M n d = some d') (fun _ _ h => h) l l' e2)
            refine ⟨t1, fun v r => ?_⟩
            have hk : k < M.length := (List.getElem?_eq_some_iff.mp e).1
            obtain ⟨_, vs, e1, rw⟩ := R.ob k _ e
            exact ⟨ι k, vs, r, (allFz_at R hk).trans e1, t2 vs rw⟩
        · cases h
      | tup l =>
        dsimp only at h
        cases e2 : frzL (frz M n) l with
        | none => rw [e2] at h; cases h
        | some l' =>
          rw [e2] at h
          cases h
          obtain ⟨t1, t2⟩ := paired_rep ih (frzL_ok (P := fun d d' => frz M n d = some d') (fun _ _ h => h) l l' e2)
          exact ⟨t1, fun v ⟨a, vs, ev, hs, r⟩ => ⟨a, vs, ev, SqT.up (allFz_up R) hs, t2 vs r⟩⟩
      | lst l =>
        dsimp only at h
        cases e2 : frzL (frz M n) l with
        | none => rw [e2] at h; cases h
        | some l' =>
          rw [e2] at h
          cases h
          obtain ⟨t1, t2⟩ := paired_rep ih (frzL_ok (P := fun d d' => frz M n d = some d') (fun _ _ h => h) l l' e2)
          exact ⟨t1, fun v ⟨a, vs, ev, hs, r⟩ => ⟨a, vs, ev, allFz_up R _ _ hs, t2 vs r⟩⟩
      | _ => cases h
end
theorem frz_b0 {M : Mem} {n : Nat} {d : D} (h : bnd 0 d) : frz M n d = some d := by
  cases n with
  | zero => unfold frz; rw [if_pos h]
  | succ n => unfold frz; rw [if_pos h]
theorem frzL_b0 {f : D → Option D} (hf : ∀ d, bnd 0 d → f d = some d) : ∀ l : List D, bndL 0 l → frzL f l = some l
  | [], _ => rfl
  | d :: l, h => by
    unfold frzL
    rw [hf d h.1, frzL_b0 hf l h.2]
    rfl
/-- a list of its own, of plain things -/
theorem frz_ptr {M : Mem} {n k : Nat} {l : List D} (e : M[k]? = some (.lst l)) (h : bndL 0 l) : frz M (n + 1) (.ptr k) = some (.lst l) := by
  unfold frz
  rw [if_neg (show ¬ bnd 0 (.ptr k) from Nat.not_lt_zero _)]
  dsimp only
  rw [e]
  dsimp only
  rw [frzL_b0 (fun d hd => frz_b0 hd) l h]
  rfl

/-! ### a pure def by its body -/
/-- what a body's end is worth -/
noncomputable def fin : Fl Fw → Pr
  | .ok (.rt d) M => match frz M 12 d with
    | some d => .ok d
    | none => .fail
  | .ok (.nx _) _ => .ok .non
  | _ => .fail
/-- the answer as it is promised -/
def Pr.le (a b : Pr) : Prop := match a with
  | .fail => True
  | a => b = a
theorem Pr.le_of {a b : Pr} (h : b = a) : a.le b := by
  subst h
  cases b <;> first | trivial | rfl
def startR (N : List Str) (ds : List D) : Ro := ds.map some ++ List.replicate (N.length - ds.length) none
theorem start_sim {K : PySem.W.Frag} {Fz H : Hp} {ι : Nat → Addr} {N : List Str} {ds : List D} {vs : List V} {M : Mem} (R : Rel K Fz H ι M) (b : bndL M.length ds) (r : RepL K Fz ι ds vs) : Sim K Fz H ι M (startR N ds) (L2.start N vs) := by
  have hl := r.len
  refine ⟨R, by unfold startR L2.start; rw [List.length_append, List.length_append, List.length_map, List.length_map, List.length_replicate, List.length_replicate, hl], fun i d e => ?_⟩
  unfold startR at e
  by_cases hi : i < ds.length
  · rw [List.getElem?_append_left (by rwa [List.length_map]), List.getElem?_map] at e
    cases e2 : ds[i]? with
    | none => rw [e2] at e; cases e
    | some d' =>
      rw [e2] at e
      have e : d' = d := Option.some.inj (Option.some.inj e)
      subst e
      obtain ⟨v, hv, rv⟩ := r.get e2
      refine ⟨bndL_get b e2, v, ?_, rv⟩
      unfold L2.start
      rw [List.getElem?_append_left (by rw [List.length_map]; omega), List.getElem?_map, hv]
      rfl
  · rw [List.getElem?_append_right (by rw [List.length_map]; omega), List.getElem?_replicate] at e
    split at e <;> cases e
section
variable {P : Program} {w : World} {K : PySem.W.Frag} {mg : Str → Option Value} {base : Heap}
theorem fin_w {Fz H : Hp} {G : Pr} {B : Fl Fw} {Q : VK} {E : XK} (hz : ∀ a o, Fz a = some o → H a = some o) (hle : G.le (fin B)) (q : Post K E Fz H i0 0 (RD K) Q G.fl) : PostS K E0 Fz H i0 0 { nx := fun _ H' => Q .non H', rt := Q } B := by
  cases G with
  | fail => exact q.elim
  | exc e =>
    have hle : fin B = .exc e := hle
    cases B with
    | fail => cases hle
    | exc e M => cases hle
    | ok w M =>
      cases w with
      | nx ρ => cases hle
      | bk ρ => cases hle
      | ct ρ => cases hle
      | rt d =>
        unfold fin at hle
        dsimp only at hle
        split at hle <;> cases hle
  | ok d' =>
    have hle : fin B = .ok d' := hle
    cases B with
    | fail => cases hle
    | exc e M => cases hle
    | ok w M =>
      cases w with
      | bk ρ => cases hle
      | ct ρ => cases hle
      | nx ρ =>
        have hle : Pr.ok .non = Pr.ok d' := hle
        cases hle
        intro Fz1 H1 ι1 σ1 g1 S1
        refine q (allFz Fz1 H1 ι1 M.length) H1 i0 .non ⟨fun a o e => allFz_up S1.rel a o (g1.fz a o e), fun k hk => absurd hk (Nat.not_lt_zero _), Nat.le_refl _, fun k h1 h2 => absurd h2 (Nat.not_lt_zero _), fun a o e _ => g1.fr a o e fun k hk => absurd hk (Nat.not_lt_zero _), g1.th, fun a e => ?_⟩
          (Rel.none (allFz_sub S1.rel) _) ⟨trivial, rfl⟩
        unfold allFz at e
        split at e
        · rename_i hx
          obtain ⟨k, hk, rfl⟩ := hx
          exact .inr (.inl (g1.new k (Nat.zero_le _) hk))
        · rcases g1.fn a e with z | z | ⟨j, hj, _⟩
          · exact .inl z
          · exact .inr (.inl z)
          · exact absurd hj (Nat.not_lt_zero _)
      | rt d =>
        unfold fin at hle
        dsimp only at hle
        split at hle
        · rename_i d2 e2
          cases hle
          intro Fz1 H1 ι1 v g1 R1 b1 r1
          obtain ⟨b2, r2⟩ := frz_ok R1 _ d d' e2
          refine q (allFz Fz1 H1 ι1 M.length) H1 i0 v ⟨fun a o e => allFz_up R1 a o (g1.fz a o e), fun k hk => absurd hk (Nat.not_lt_zero _), Nat.le_refl _, fun k h1 h2 => absurd h2 (Nat.not_lt_zero _), fun a o e _ => g1.fr a o e fun k hk => absurd hk (Nat.not_lt_zero _), g1.th, fun a e => ?_⟩
            (Rel.none (allFz_sub R1) _) ⟨b2, r2 v r1⟩
          unfold allFz at e
          split at e
          · rename_i hx
            obtain ⟨k, hk, rfl⟩ := hx
            exact .inr (.inl (g1.new k (Nat.zero_le _) hk))
          · rcases g1.fn a e with z | z | ⟨j, hj, _⟩
            · exact .inl z
            · exact .inr (.inl z)
            · exact absurd hj (Nat.not_lt_zero _)
        · cases hle
/-- THE RULE for a pure def that raises nothing -/
theorem _root_.L2.Fun.pure {x qual : Str} {st : Stmt} {f : Addr} {fd : FuncData} {N ps : List Str} {k : Nat} {G : PF} (F : Fun K x qual st f fd) (S : FnScope N ps (defScope st))
    (hbody : ∀ (cdv : Value) (A : Around) (outer : List Env) (s : Shared) (H : Hp) (E : XK), Room k (A.deeper (envOfC qual (defScope st) s.heap.objs.size f cdv)) →
      ∃ B, XSs (cxOf CX0 P w K mg base N qual (defScope st) f cdv A outer s H E).nox E0 (defBody st) B ∧ ∀ ds, ds.length = ps.length → bndL 0 ds → (G ds).le (fin (B (startR N ds) []))) : FnOk P w K mg base CX0 (k + 1) f fd ps (spP K ps.length G) := by
  refine F.ok S (fun vs H Q E h => spP_len h) fun cdv A outer s H vs Q E hr h => ?_
  obtain ⟨B, hB, hle⟩ := hbody cdv A outer s H E hr
  refine ⟨_, hB, ?_⟩
  obtain ⟨Fz, ds, hz, hl, b, r, q⟩ := h
  have R : Rel K Fz H i0 [] := Rel.none hz _
  exact ⟨Fz, i0, [], startR N ds, start_sim R b r, fin_w hz (hle ds hl b) q⟩
/-- a law: True for every script -/
theorem law_of {f : Addr} {fd : FuncData} {ps : List Str} {k : Nat} {G : PF} (F : FnOk P w K mg base CX0 k f fd ps (spP K 1 G)) (h : ∀ ns : List Int, ns.length ≤ 63 → G [.scr (ns.map .int)] = .ok (.bl true)) :
    FnOk P w K mg base CX0 k f fd ps fun vs H Q _ => ∃ (a : Addr) (ns : List Int), vs = [.ref a] ∧ SqL K H a (ns.map V.int) ∧ ns.length ≤ 63 ∧ ∀ H', Q (.bl true) H' := by
  refine F.imp fun vs H Q E hs => ?_
  obtain ⟨a, ns, rfl, hS, hlen, q⟩ := hs
  refine ⟨H, [.scr (ns.map .int)], fun _ _ e => e, rfl, ⟨bndL_ints _, trivial⟩, ⟨_, [], rfl, ⟨a, _, rfl, hS, RepL.of_ints _ _ _ _⟩, rfl⟩, ?_⟩
  rw [h ns hlen]
  intro Fz' H' ι' v g R r
  have r : v = V.bl true := r.2
  subst r
  exact q H'
end
end MM

/-! MMh: str.replace by written texts: the rules behind a token that is out. -/
namespace MM
open PySem PySem.Spec PyProof.Rows L2
def iaddD : D → D → Mem → Fl D
  | .int i, .int j, M => .ok (.int (i + j)) M
  | _, _, _ => .fail
theorem os_iadd {K : PySem.W.Frag} {E : XK} : OpS K E (rI0 fun i j => .int (i + j)) iaddD := os_i0 (h := fun i j => .int (i + j)) (fun _ _ => ⟨fun _ _ _ => rfl, trivial⟩) (fun a b M => by cases a <;> cases b <;> rfl)
def eRepl (y z : Str) (fo : EF) : EF := fun ρ M => (fo ρ M).bind fun d M1 => match d with
  | .str x => if x.length + (x.length + 1) * z.length ≤ 1000000 then .ok (.str (Txt.replace x y z)) M1 else .fail
  | _ => .fail
section
variable {X : Cx} {E : XK} {o e : Expr} {fo fe : EF} {y z : Str} {j k : Nat} {c0 c1 apos pos p p' : Pos} {st : Stmt} {rest : List Stmt} {f g : SF}
theorem xet_repl (ho : XE X E o fo) (hyz : (y == z) = false := by decide)
    (hst : starEach [.Constant (.str y) j c0, .Constant (.str z) k c1] X.env = [(false, eval (.Constant (.str y) j c0) X.env), (false, eval (.Constant (.str z) k c1) X.env)] := by rfl)
    (hbase : attributeBase o "replace" X.env (eval o X.env) = eval o X.env := by rfl) (hline : (apos.endLine == pos.line) = true := by rfl) :
    PET X (.Call (.Attribute o "replace" apos) [.Constant (.str y) j c0, .Constant (.str z) k c1] [] pos) (wE X.K E (eRepl y z fo)) := by
  intro pins s σ H Q h0 I h
  refine CwR.pet_replC ho hyz hst hbase hline pins s σ H Q h0 I ?_
  obtain ⟨Fz, ι, M, ρ, S, q⟩ := h
  refine ⟨Fz, ι, M, ρ, S, q.first fun d M1 Fz1 H1 ι1 x g1 R1 rd q1 => ?_⟩
  cases d with
  | str t =>
    dsimp only at q1
    split at q1
    · rename_i hz
      exact ⟨t, rd.2, by omega, q1.now R1 ⟨trivial, rfl⟩⟩
    · exact q1.elim
  | _ => exact q1.elim
theorem pet_m1 {id : String} {name : Str} {to te : TE} {r : V → List V → Hp → VK → Prop} (slot : Slot "str" name id) (ty : typeOf (.builtin id) = pure (.type "method_descriptor")) (rule : MtR X id r) (ho : PET X o to) (he : PE X e te)
    (hs : starEach [e] X.env = [(false, eval e X.env)] := by rfl) (hbase : attributeBase o name X.env (eval o X.env) = eval o X.env := by rfl) (hline : (apos.endLine == pos.line) = true := by rfl) :
    PET X (.Call (.Attribute o name apos) [e] [] pos) (tM1 r to te) := by
  intro pins s σ H Q h0 I h
  refine PySem.Call_method1 hbase hs hline (thn (ho pins s σ H _ h0 I h) fun v s1 ⟨x, H1, I1, r1, q1⟩ => ?_)
  obtain ⟨⟨a, rfl⟩, q1⟩ := q1
  obtain ⟨t, rfl⟩ := _root_.id r1
  refine ⟨"str", id, PySem.F.plainAttrs_str, slot, ty, typeIs_str _ _ _, (fun _ e => nomatch e), ?_⟩
  refine Calls.callWith_builtin rfl (Calls.evalArgs_plain (Calls.spliced_cons (thn (he.run pins s1 σ H1 _ I1 q1) fun u s2 ⟨y, H2, I2, r2, q2⟩ => Calls.spliced_nil ?_)))
  exact rule pins s2 σ H2 (.str a) [y] _ [u] Q I2 ⟨t, rfl⟩ (.cons r2 .nil) q2
def eSplitT (fo fe : EF) : EF := fun ρ M => (fo ρ M).bind fun a M1 => match a with
  | .str _ => (fe ρ M1).bind fun d M2 => splitD a [d] M2
  | _ => .fail
theorem xet_split (ho : PET X o (wE X.K E fo)) (he : XE X E e fe) (hs : starEach [e] X.env = [(false, eval e X.env)] := by rfl) (hbase : attributeBase o "split" X.env (eval o X.env) = eval o X.env := by rfl) (hline : (apos.endLine == pos.line) = true := by rfl) :
    PET X (.Call (.Attribute o "split" apos) [e] [] pos) (wE X.K E (eSplitT fo fe)) := by
  intro pins s σ H Q h0 I h
  refine pet_m1 PySem.F.slot_str_split PySem.F.type_str_split mt_split ho he hs hbase hline pins s σ H Q h0 I ?_
  obtain ⟨Fz, ι, M, ρ, S, q⟩ := h
  refine ⟨Fz, ι, M, ρ, S, q.first fun d M1 Fz1 H1 ι1 x g1 R1 rd q1 => ?_⟩
  cases d with
  | str t =>
    dsimp only at q1
    refine ⟨⟨t, rd.2⟩, Fz1, ι1, M1, ρ, S.grow g1 R1, q1.first fun b M2 Fz2 H2 ι2 y g2 R2 rb q2 => ?_⟩
    exact ms_split (K := X.K) (E := E) Fz2 H2 ι2 M2 (.str t) [b] x [y] Q R2 trivial ⟨rb.1, trivial⟩ (g2.rep (d := .str t) trivial rd.2) ⟨y, [], rfl, rb.2, rfl⟩ q2
  | _ => exact q1.elim
theorem xit_list {tg : Expr} (h : PET X e (wE X.K E fe)) : PIT X tg e (wI X.K E (iL fe)) := by
  intro pins s σ H R h0 I q
  refine pit_list h pins s σ H R h0 I ?_
  obtain ⟨Fz, ι, M, ρ, S, q⟩ := q
  refine ⟨Fz, ι, M, ρ, S, q.first fun d M1 Fz1 H1 ι1 x g1 R1 ra q1 => ?_⟩
  cases d with
  | lst l =>
    obtain ⟨a, vs, ex, hs, rl⟩ := ra.2
    have hl : SqL X.K H1 a vs := SqL.of (R1.fz _ _ hs)
    exact ⟨a, ex, ⟨vs, hl⟩, q1.now R1 (it_list ra.1 fun Fz2 H2 ι2 M2 h1 h2 h3 R2 _ => ⟨vs, SqL.of (R2.fz _ _ (h1 _ _ hs)), RepL.up h1 h2 l vs ra.1 rl⟩)⟩
  | scr l =>
    obtain ⟨a, vs, ex, hs, rl⟩ := ra.2
    exact ⟨a, ex, ⟨vs, SqL.up R1.fz hs⟩, q1.now R1 (it_list ra.1 fun Fz2 H2 ι2 M2 h1 h2 h3 R2 _ => ⟨vs, SqL.up R2.fz (SqL.up h1 hs), RepL.up h1 h2 l vs ra.1 rl⟩)⟩
  | ptr k =>
    dsimp only at q1
    split at q1
    · rename_i l e
      obtain ⟨_, vs, e1, rl⟩ := R1.ob k _ e
      have ex : x = .ref (ι1 k) := ra.2
      refine ⟨ι1 k, ex, ⟨vs, SqL.of e1⟩, q1.now R1 (it_list (R1.wf k _ e) fun Fz2 H2 ι2 M2 h1 h2 h3 R2 ok => ?_)⟩
      have ok : M2[k]? = some (.lst l) := ok
      obtain ⟨_, vs2, e2, rl2⟩ := R2.ob k _ ok
      rw [h2 k ra.1] at e2
      exact ⟨vs2, SqL.of e2, rl2⟩
    · exact q1.elim
  | _ => exact q1.elim
/-- behind a token -/
theorem xst_for {tg iter : Expr} {body : List Stmt} {fi : IF} {g : GF} {ws : List Nat} (hp : PassesOwn (model X.prog X.w) X.A X.env X.xe) (hc : X.calm = true) (hi : PIT X tg iter (wI X.K E fi)) (hg : PG X tg (wT X.K ws g)) (hb : XSs X E body f) (hs : ∀ x, foldedSetIterable iter X.env x = pure x := by intro _; rfl) :
    PST X (.For tg iter body [] pos) (wS X.K E (sFor fi g f)) := fun pins s σ H D h0 I q => pst_for hp hc hi hg hb hs pins s σ H D h0 I (for_w D σ H q)
theorem xsst_of (h : XSs X E rest f) : PSsT X rest (wS X.K E f) := PSsT.of h
theorem xsst_cons (h1 : XS X E st f) (h2 : PSsT X rest (wS X.K E g)) : PSsT X (st :: rest) (wS X.K E (sSeq f g)) := fun pins s σ H D h0 I q => psst_cons (PST.of h1) h2 pins s σ H D h0 I (seq_w D σ H q)
theorem xsst_consT (h1 : PST X st (wS X.K E f)) (h2 : PSsT X rest (wS X.K E g)) : PSsT X (st :: rest) (wS X.K E (sSeq f g)) := fun pins s σ H D h0 I q => psst_cons h1 h2 pins s σ H D h0 I (seq_w D σ H q)
/-- name = a written number: a token is out -/
theorem xss_tok {i j : Nat} {x : Str} {c : Int} {cpos pos' : Pos} (hN : X.N.Nodup) (h2 : PSsT X rest (wS X.K E g)) (hi : X.N[i]? = some x := by rfl) (hx : Loc X.env.scope x := by first | exact Or.inl rfl | exact Or.inr rfl)
    (hs : swapsWith (.Constant (.int c) j cpos) (some (.Name x pos')) pos.line X.env = pure false := by rfl) (hf : X.fn x = true ∨ X.env.scope.names.lookup x = some .local := by first | exact .inl rfl | exact .inr rfl | assumption) :
    XSs X E (.Assign [.Name x pos'] (.Constant (.int c) j cpos) pos :: rest) (sSeq (sSet i (eC (.int c))) g) := by
  refine ⟨fun pins s σ H D I h => ?_⟩
  refine wpAny_execs_cons (wpAny_Assign_Name (wpAny_Constant_int ?_) hs)
  refine wpAny_mono (PySem.wpAny_toks (store_ok (v := V.int c) (u := Value.int c s.toks) (Q := fun _ s2 => Inv X pins (σ.set i (some (V.int c))) H s2) (I.tok (s.toks + 1)) hN hi hx ⟨s.toks, rfl⟩ (fun _ I2 => I2) hf)) (fun _ s2 q => ?_) fun _ _ z => z.2
  have hk : s.toks + 1 ≤ s2.toks := q.1
  refine h2 pins s2 _ H D (by omega) q.2 ?_
  obtain ⟨Fz, ι, M, ρ, S, q3⟩ := h
  exact ⟨Fz, ι, M, _, S.set i (d := .int c) (v := .int c) trivial rfl, q3⟩
end
end MM
namespace MM
open PySem PySem.Spec PyProof.Rows L2
/-! ### a changing list that a name holds stands for good from here on -/
noncomputable def sFrz (i : Nat) (f : SF) : SF := fun ρ M => match ρ[i]? with
  | some (some (.ptr k)) => match M[k]? with
    | some (.lst l) => f (ρ.set i (some (.lst l))) (M.set k .gone)
    | _ => .fail
  | _ => .fail
section
variable {X : Cx} {E : XK} {st : Stmt} {sts : List Stmt} {f : SF} {K : PySem.W.Frag}
theorem frz_w (i : Nat) : ∀ D σ H, wS K E (sFrz i f) D σ H → wS K E f D σ H := by
  rintro D σ H ⟨Fz, ι, M, ρ, S, q⟩
  unfold sFrz at q
  split at q
  · rename_i k hk
    split at q
    · rename_i l e
      obtain ⟨b, v, hv, rv⟩ := S.slot i _ hk
      have rv : v = .ref (ι k) := rv
      subst rv
      have hkl : k < M.length := (List.getElem?_eq_some_iff.mp e).1
      obtain ⟨f0, vs, h1, rl⟩ := S.rel.ob k _ e
      have bl : bndL M.length l := S.rel.wf k _ e
      have up : ∀ a u, Fz a = some u → upd Fz (ι k) (.lst vs) a = some u := fun a u e => by rw [upd_ne (ne_of_none e f0)]; exact e
      have hl : (M.set k MO.gone).length = M.length := by simp
      have R2 : Rel K (upd Fz (ι k) (.lst vs)) H ι (M.set k .gone) := by
        refine ⟨fun a u e => ?_, fun j mo e => ?_, fun j mo e => ?_, fun j hj => S.rel.occ j (by omega), fun a b ha hb e => S.rel.inj a b (by omega) (by omega) e⟩
        · by_cases z : a = ι k
          · subst z; rw [upd_same] at e; rw [h1]; exact e
          · rw [upd_ne z] at e; exact S.rel.fz a u e
        · by_cases z : j = k
          · subst z
            rw [List.getElem?_set_self hkl] at e
            have e := Option.some.inj e
            subst e
            trivial
          · rw [List.getElem?_set_ne (Ne.symm z)] at e
            have hj : j < M.length := (List.getElem?_eq_some_iff.mp e).1
            exact ObM.keep (m := 0) S.rel e up (upd_ne fun q => z (S.rel.inj _ _ hj hkl q)) (fun _ _ => rfl) rfl
        · rw [hl]
          by_cases z : j = k
          · subst z
            rw [List.getElem?_set_self hkl] at e
            have e := Option.some.inj e
            subst e
            trivial
          · rw [List.getElem?_set_ne (Ne.symm z)] at e
            exact S.rel.wf j mo e
      have g2 : Grow Fz H ι M.length (upd Fz (ι k) (.lst vs)) H ι (M.set k MO.gone).length :=
        ⟨up, fun _ _ => rfl, by omega, fun j a b => by omega, fun a o e _ => e, fun a e => e, fun a e => by
          by_cases z : a = ι k
          · exact .inr (.inr ⟨k, hkl, z.symm⟩)
          · rw [upd_ne z] at e; exact .inl e⟩
      have S2 := S.grow g2 R2
      refine ⟨_, ι, M.set k .gone, ρ.set i (some (.lst l)), ?_, PostS.grow g2 q⟩
      have S3 := S2.set i (d := .lst l) (v := .ref (ι k)) (by rw [hl]; exact bl) ⟨ι k, vs, rfl, upd_same, RepL.up up (fun _ _ => rfl) l vs bl rl⟩
      have e3 : σ.set i (some (.ref (ι k))) = σ := by
        refine List.ext_getElem? fun j => ?_
        by_cases z : j = i
        · subst z
          rw [List.getElem?_set_self (List.getElem?_eq_some_iff.mp hv).1, hv]
        · rw [List.getElem?_set_ne (Ne.symm z)]
      rw [e3] at S3
      exact S3
    · exact q.elim
  · exact q.elim
theorem xs_frz (i : Nat) (h : XS X E st f) : XS X E st (sFrz i f) := h.imp (frz_w i)
end
end MM

/-! MMs: lemmas for reckoning with the functions of the layer: plain Lean, no program in sight. -/
namespace MM
open PySem PySem.Spec PyProof.Rows L2
@[simp] theorem bnd_non {n : Nat} : bnd n .non := trivial
@[simp] theorem bnd_bl {n : Nat} {b : Bool} : bnd n (.bl b) := trivial
@[simp] theorem bnd_int {n : Nat} {i : Int} : bnd n (.int i) := trivial
@[simp] theorem bnd_str {n : Nat} {x : Str} : bnd n (.str x) := trivial
@[simp] theorem bnd_tup {n : Nat} {l : List D} : bnd n (.tup l) ↔ bndL n l := Iff.rfl
@[simp] theorem bnd_lst {n : Nat} {l : List D} : bnd n (.lst l) ↔ bndL n l := Iff.rfl
@[simp] theorem bnd_scr {n : Nat} {l : List D} : bnd n (.scr l) ↔ bndL n l := Iff.rfl
@[simp] theorem bnd_ptr {n k : Nat} : bnd n (.ptr k) ↔ k < n := Iff.rfl
@[simp] theorem bndL_nil {n : Nat} : bndL n [] := trivial
@[simp] theorem bndL_cons {n : Nat} {d : D} {l : List D} : bndL n (d :: l) ↔ bnd n d ∧ bndL n l := Iff.rfl
@[simp] theorem bndL_app {n : Nat} {l m : List D} : bndL n (l ++ m) ↔ bndL n l ∧ bndL n m := bndL_append
@[simp] theorem bndL_mstr {n : Nat} {l : List Str} : bndL n (l.map D.str) := bndL_strs l
@[simp] theorem bndL_mint {n : Nat} {l : List Int} : bndL n (l.map D.int) := bndL_ints l
theorem fin_rt {d : D} {M : Mem} (h : bnd 0 d) : fin (.ok (.rt d) M) = .ok d := by
  unfold fin
  dsimp only
  rw [frz_b0 h]
theorem fin_ptr {k : Nat} {l : List D} {M : Mem} (e : M[k]? = some (.lst l)) (h : bndL 0 l) : fin (.ok (.rt (.ptr k)) M) = .ok (.lst l) := by
  unfold fin
  dsimp only
  rw [frz_ptr e h]
theorem fin_nx {ρ : Ro} {M : Mem} : fin (.ok (.nx ρ) M) = .ok .non := rfl

/-! ### loops -/
theorem forF_nx {it : Wk} {g : GF} {body : SF} (I : Nat → Ro → Mem → Prop) : ∀ (l : List D) (i : Nat) (ρ : Ro) (M : Mem),
    (∀ j d ρ M, l[j]? = some d → I (i + j) ρ M → it.ok M ∧ ∃ ρ1, g d ρ = some ρ1 ∧ ∃ ρ2 M2, (body ρ1 M = .ok (.nx ρ2) M2 ∨ body ρ1 M = .ok (.ct ρ2) M2) ∧ I (i + j + 1) ρ2 M2) →
    (∀ ρ M, I (i + l.length) ρ M → it.ok M) → I i ρ M → ∃ ρ' M', forF it g body l ρ M = .ok (.nx ρ') M' ∧ I (i + l.length) ρ' M'
  | [], i, ρ, M, _, he, h => by
    refine ⟨ρ, M, ?_, h⟩
    unfold forF
    rw [if_pos (he ρ M h)]
  | d :: l, i, ρ, M, hs, he, h => by
    obtain ⟨ok, ρ1, e1, ρ2, M2, e2, h2⟩ := hs 0 d ρ M rfl h
    obtain ⟨ρ', M', e3, h3⟩ := forF_nx I l (i + 1) ρ2 M2 (fun j d ρ M e h => by
      have := hs (j + 1) d ρ M (by simpa using e) (by rw [show i + (j + 1) = i + 1 + j by omega]; exact h)
      rw [show i + (j + 1) + 1 = i + 1 + j + 1 by omega] at this
      exact this) (fun ρ M h => he ρ M (by rw [List.length_cons, show i + (l.length + 1) = i + 1 + l.length by omega]; exact h)) h2
    refine ⟨ρ', M', ?_, by rw [List.length_cons, show i + (l.length + 1) = i + 1 + l.length by omega]; exact h3⟩
    unfold forF
    rw [if_pos ok, e1]
    rcases e2 with e2 | e2 <;> (dsimp only; rw [e2]; exact e3)
/-- a loop that goes through to its end -/
theorem sFor_nx {it : Wk} {g : GF} {body : SF} {fi : IF} {ρ : Ro} {M M0 : Mem} (I : Nat → Ro → Mem → Prop) (hi : fi ρ M0 = .ok it M)
    (hs : ∀ j d ρ M, it.items[j]? = some d → I j ρ M → it.ok M ∧ ∃ ρ1, g d ρ = some ρ1 ∧ ∃ ρ2 M2, (body ρ1 M = .ok (.nx ρ2) M2 ∨ body ρ1 M = .ok (.ct ρ2) M2) ∧ I (j + 1) ρ2 M2)
    (he : ∀ ρ M, I it.items.length ρ M → it.ok M) (h : I 0 ρ M) : ∃ ρ' M', sFor fi g body ρ M0 = .ok (.nx ρ') M' ∧ I it.items.length ρ' M' := by
  unfold sFor
  rw [hi, Fl.bind_ok]
  obtain ⟨ρ', M', e, h'⟩ := forF_nx I it.items 0 ρ M (fun j d ρ M e h => by simpa using hs j d ρ M e (by simpa using h)) (fun ρ M h => he ρ M (by simpa using h)) h
  exact ⟨ρ', M', e, by simpa using h'⟩
/-- .. of which a turn may return -/
theorem sFor_or {it : Wk} {g : GF} {body : SF} {fi : IF} {ρ : Ro} {M M0 : Mem} (I : Nat → Ro → Mem → Prop) (R : D → Mem → Prop) (hi : fi ρ M0 = .ok it M)
    (hs : ∀ j d ρ M, it.items[j]? = some d → I j ρ M → it.ok M ∧ ∃ ρ1, g d ρ = some ρ1 ∧ ((∃ ρ2 M2, (body ρ1 M = .ok (.nx ρ2) M2 ∨ body ρ1 M = .ok (.ct ρ2) M2) ∧ I (j + 1) ρ2 M2) ∨ ∃ d M2, body ρ1 M = .ok (.rt d) M2 ∧ R d M2))
    (he : ∀ ρ M, I it.items.length ρ M → it.ok M) (h : I 0 ρ M) : (∃ ρ' M', sFor fi g body ρ M0 = .ok (.nx ρ') M' ∧ I it.items.length ρ' M') ∨ ∃ d M', sFor fi g body ρ M0 = .ok (.rt d) M' ∧ R d M' := by
  unfold sFor
  rw [hi, Fl.bind_ok]
  have go : ∀ (l : List D) (i : Nat) (ρ : Ro) (M : Mem), it.items.drop i = l → i ≤ it.items.length → I i ρ M → (∃ ρ' M', forF it g body l ρ M = .ok (.nx ρ') M' ∧ I it.items.length ρ' M') ∨ ∃ d M', forF it g body l ρ M = .ok (.rt d) M' ∧ R d M' := by
    intro l
    induction l with
    | nil =>
      intro i ρ M el hi h
      have : i = it.items.length := by
        have := congrArg List.length el
        rw [List.length_drop] at this
        simp at this
        omega
      subst this
      refine .inl ⟨ρ, M, ?_, h⟩
      unfold forF
      rw [if_pos (he ρ M h)]
    | cons d l ih =>
      intro i ρ M el hi h
      have hd : it.items[i]? = some d := by
        have := congrArg (fun z => z[0]?) el
        simpa using this
      have hi2 : i < it.items.length := (List.getElem?_eq_some_iff.mp hd).1
      have el2 : it.items.drop (i + 1) = l := by
        have := congrArg List.tail el
        simpa using this
      obtain ⟨ok, ρ1, e1, hx⟩ := hs i d ρ M hd h
      unfold forF
      rw [if_pos ok, e1]
      rcases hx with ⟨ρ2, M2, e2, h2⟩ | ⟨d2, M2, e2, r⟩
      · rcases e2 with e2 | e2 <;> (dsimp only; rw [e2]; exact ih (i + 1) ρ2 M2 el2 hi2 h2)
      · refine .inr ⟨d2, M2, ?_, r⟩
        dsimp only
        rw [e2]
        rfl
  exact go it.items 0 ρ M (by simp) (Nat.zero_le _) h
theorem whileF_nx {c : BF} {f : SF} (I : Ro → Mem → Prop) (μ : Ro → Mem → Nat)
    (h : ∀ ρ M, I ρ M → ∃ b, c ρ M = .ok b M ∧ (b = true → ∃ ρ2 M2, (f ρ M = .ok (.nx ρ2) M2 ∨ f ρ M = .ok (.ct ρ2) M2) ∧ I ρ2 M2 ∧ μ ρ2 M2 < μ ρ M)) : ∀ (N : Nat) (ρ : Ro) (M : Mem), I ρ M → μ ρ M < N →
    ∃ ρ' M', whileF c f N ρ M = .ok (.nx ρ') M' ∧ I ρ' M' ∧ c ρ' M' = .ok false M' := by
  intro N
  induction N with
  | zero => intro ρ M _ hm; omega
  | succ N ih =>
    intro ρ M hI hm
    obtain ⟨b, hb, hs⟩ := h ρ M hI
    unfold whileF
    rw [hb, Fl.bind_ok]
    cases b with
    | false => exact ⟨ρ, M, by rw [if_neg Bool.false_ne_true], hI, hb⟩
    | true =>
      obtain ⟨ρ2, M2, e2, h2, hm2⟩ := hs rfl
      rw [if_pos rfl]
      obtain ⟨ρ', M', e3, h3⟩ := ih ρ2 M2 h2 (by omega)
      refine ⟨ρ', M', ?_, h3⟩
      rcases e2 with e2 | e2 <;> (rw [e2]; exact e3)
theorem sWhile_nx {c : BF} {f : SF} {N : Nat} {ρ : Ro} {M : Mem} (I : Ro → Mem → Prop) (μ : Ro → Mem → Nat)
    (h : ∀ ρ M, I ρ M → ∃ b, c ρ M = .ok b M ∧ (b = true → ∃ ρ2 M2, (f ρ M = .ok (.nx ρ2) M2 ∨ f ρ M = .ok (.ct ρ2) M2) ∧ I ρ2 M2 ∧ μ ρ2 M2 < μ ρ M)) (hI : I ρ M) (hm : μ ρ M < N) :
    ∃ ρ' M', sWhile N c f ρ M = .ok (.nx ρ') M' ∧ I ρ' M' ∧ c ρ' M' = .ok false M' := whileF_nx I μ h N ρ M hI hm
/-- a comprehension whose turns change nothing -/
theorem lcF_fm {it : Wk} {vs : List Nat} {g : GF} {ft : BF} {fe : EF} {ρ : Ro} {M : Mem} (v : D → Option D) (ok : it.ok M) : ∀ l : List D,
    (∀ d ∈ l, ∃ ρ1, g d (wipeR ρ vs) = some ρ1 ∧ ((∃ y, v d = some y ∧ ft ρ1 M = .ok true M ∧ fe ρ1 M = .ok y M) ∨ (v d = none ∧ ft ρ1 M = .ok false M))) → lcF it vs g ft fe l ρ M = .ok (l.filterMap v) M
  | [], _ => by
    unfold lcF
    rw [if_pos ok]
    rfl
  | d :: l, h => by
    obtain ⟨ρ1, e1, hx⟩ := h d List.mem_cons_self
    have ih := lcF_fm v ok l fun e he => h e (List.mem_cons_of_mem _ he)
    unfold lcF
    rw [if_pos ok, e1]
    dsimp only
    rcases hx with ⟨y, hv, h1, h2⟩ | ⟨hv, h1⟩
    · rw [h1, Fl.bind_ok, if_pos rfl, h2, Fl.bind_ok, ih, List.filterMap_cons, hv]
      rfl
    · rw [h1, Fl.bind_ok, if_neg Bool.false_ne_true, ih, List.filterMap_cons, hv]
theorem eLcF_fm {it : Wk} {fi : IF} {vs : List Nat} {g : GF} {ft : BF} {fe : EF} {ρ : Ro} {M M0 : Mem} (v : D → Option D) (hi : fi ρ M0 = .ok it M) (ok : it.ok M) (hz : it.items.length ≤ 1000000)
    (h : ∀ d ∈ it.items, ∃ ρ1, g d (wipeR ρ vs) = some ρ1 ∧ ((∃ y, v d = some y ∧ ft ρ1 M = .ok true M ∧ fe ρ1 M = .ok y M) ∨ (v d = none ∧ ft ρ1 M = .ok false M))) : eLcF fi vs g ft fe ρ M0 = .ok (.lst (it.items.filterMap v)) M := by
  unfold eLcF
  rw [hi, Fl.bind_ok, if_pos hz, lcF_fm v ok it.items h]
  rfl
theorem eLcF_map {it : Wk} {fi : IF} {vs : List Nat} {g : GF} {fe : EF} {ρ : Ro} {M M0 : Mem} (v : D → D) (hi : fi ρ M0 = .ok it M) (ok : it.ok M) (hz : it.items.length ≤ 1000000)
    (h : ∀ d ∈ it.items, ∃ ρ1, g d (wipeR ρ vs) = some ρ1 ∧ fe ρ1 M = .ok (v d) M) : eLcF fi vs g bYes fe ρ M0 = .ok (.lst (it.items.map v)) M := by
  rw [eLcF_fm (fun d => some (v d)) hi ok hz fun d hd => by
    obtain ⟨ρ1, a, b⟩ := h d hd
    exact ⟨ρ1, a, .inl ⟨v d, rfl, rfl, b⟩⟩]
  simp
@[simp] theorem rangeL_length (lo : Int) (n : Nat) : (rangeL lo n).length = n := by
  unfold rangeL
  rw [List.length_map, List.length_range]
theorem rangeL_get {lo : Int} {n i : Nat} {d : D} (h : (rangeL lo n)[i]? = some d) : i < n ∧ d = .int (lo + i) := by
  unfold rangeL at h
  rw [List.getElem?_map] at h
  cases e : (List.range n)[i]? with
  | none => rw [e] at h; cases h
  | some j =>
    rw [e] at h
    obtain ⟨h1, h2⟩ := List.getElem?_eq_some_iff.mp e
    rw [List.length_range] at h1
    rw [List.getElem_range] at h2
    subst h2
    exact ⟨h1, (Option.some.inj h).symm⟩
theorem rangeL_mem {lo : Int} {n : Nat} {d : D} (h : d ∈ rangeL lo n) : ∃ i : Nat, i < n ∧ d = .int (lo + i) := by
  obtain ⟨i, hi⟩ := List.getElem?_of_mem h
  exact ⟨i, rangeL_get hi⟩
theorem atI_nn {α : Type} {l : List α} {k : Nat} {d : α} (h : l[k]? = some d) : atI l (k : Int) = some d := atI_nat h
/-- the places that a function's reading is reckoned by -/
theorem seq_nx {f g : SF} {ρ ρ1 : Ro} {M M1 : Mem} (h : f ρ M = .ok (.nx ρ1) M1) : sSeq f g ρ M = g ρ1 M1 := by
  unfold sSeq
  rw [h]
  rfl
theorem seq_rt {f g : SF} {ρ : Ro} {d : D} {M M1 : Mem} (h : f ρ M = .ok (.rt d) M1) : sSeq f g ρ M = .ok (.rt d) M1 := by
  unfold sSeq
  rw [h]
  rfl
theorem set_ok {i : Nat} {f : EF} {ρ : Ro} {d : D} {M M1 : Mem} (h : f ρ M = .ok d M1) : sSet i f ρ M = .ok (.nx (ρ.set i (some d))) M1 := by
  unfold sSet
  rw [h]
  rfl
theorem if_ok {c : BF} {f g : SF} {ρ : Ro} {b : Bool} {M M1 : Mem} (h : c ρ M = .ok b M1) : sIf c f g ρ M = if b = true then f ρ M1 else g ρ M1 := by
  unfold sIf
  rw [h]
  rfl
theorem call_ok {m : Nat} {G : PF} {fa : AF} {ρ : Ro} {l : List D} {d : D} {M M1 : Mem} (h : fa ρ M = .ok l M1) (hm : l.length = m) (hb : bndL 0 l) (hG : G l = .ok d) (hd : bnd 0 d) : eCall m G fa ρ M = .ok d M1 := by
  unfold eCall
  rw [h, Fl.bind_ok, if_pos ⟨hm, hb⟩, hG]
  dsimp only
  rw [if_pos hd]
theorem acons_ok {fa : EF} {fr : AF} {ρ : Ro} {a : D} {l : List D} {M M1 M2 : Mem} (h1 : fa ρ M = .ok a M1) (h2 : fr ρ M1 = .ok l M2) : aCons fa fr ρ M = .ok (a :: l) M2 := by
  unfold aCons
  rw [h1, Fl.bind_ok, h2]
  rfl
theorem aone_ok {fa : EF} {ρ : Ro} {a : D} {M M1 : Mem} (h1 : fa ρ M = .ok a M1) : aCons fa aNil ρ M = .ok [a] M1 := acons_ok h1 rfl
theorem bin_ok {op : D → D → Mem → Fl D} {fa fb : EF} {ρ : Ro} {a b : D} {M M1 M2 : Mem} (h1 : fa ρ M = .ok a M1) (h2 : fb ρ M1 = .ok b M2) : eBin op fa fb ρ M = op a b M2 := by
  unfold eBin
  rw [h1, Fl.bind_ok, h2]
  rfl
theorem ca_ok {op : List D → Mem → Fl D} {fa : AF} {ρ : Ro} {l : List D} {M M1 : Mem} (h1 : fa ρ M = .ok l M1) : eCa op fa ρ M = op l M1 := by
  unfold eCa
  rw [h1]
  rfl
theorem ex_ok {f : EF} {ρ : Ro} {d : D} {M M1 : Mem} (h : f ρ M = .ok d M1) : sEx f ρ M = .ok (.nx ρ) M1 := by
  unfold sEx
  rw [h]
  rfl
theorem ret_ok {f : EF} {ρ : Ro} {d : D} {M M1 : Mem} (h : f ρ M = .ok d M1) : sRet f ρ M = .ok (.rt d) M1 := by
  unfold sRet
  rw [h]
  rfl
theorem bof_ok {f : EF} {ρ : Ro} {b : Bool} {M M1 : Mem} (h : f ρ M = .ok (.bl b) M1) : bOf f ρ M = .ok b M1 := by
  unfold bOf
  rw [h]
  rfl
theorem band_t {f g : BF} {ρ : Ro} {b : Bool} {M M1 M2 : Mem} (h : f ρ M = .ok true M1) (h2 : g ρ M1 = .ok b M2) : bAnd f g ρ M = .ok b M2 := by
  unfold bAnd
  rw [h, Fl.bind_ok, if_pos rfl, h2]
theorem band_f {f g : BF} {ρ : Ro} {M M1 : Mem} (h : f ρ M = .ok false M1) : bAnd f g ρ M = .ok false M1 := by
  unfold bAnd
  rw [h]
  rfl
theorem bor_f {f g : BF} {ρ : Ro} {b : Bool} {M M1 M2 : Mem} (h : f ρ M = .ok false M1) (h2 : g ρ M1 = .ok b M2) : bOr f g ρ M = .ok b M2 := by
  unfold bOr
  rw [h, Fl.bind_ok, if_neg Bool.false_ne_true, h2]
theorem bor_t {f g : BF} {ρ : Ro} {M M1 : Mem} (h : f ρ M = .ok true M1) : bOr f g ρ M = .ok true M1 := by
  unfold bOr
  rw [h]
  rfl
theorem bnot_ok {f : BF} {ρ : Ro} {b : Bool} {M M1 : Mem} (h : f ρ M = .ok b M1) : bNot f ρ M = .ok (!b) M1 := by
  unfold bNot
  rw [h]
  rfl
theorem eMt_ok {T : String} {op : D → List D → Mem → Fl D} {fo : EF} {fa : AF} {ρ : Ro} {M M1 M2 : Mem} {a : D} {l : List D} (h1 : fo ρ M = .ok a M1) (h2 : tyM T a M1) (h3 : fa ρ M1 = .ok l M2) : eMt T op fo fa ρ M = op a l M2 := by
  unfold eMt
  rw [h1, Fl.bind_ok, if_pos h2, h3, Fl.bind_ok]
theorem iR1_ok {fa : EF} {ρ : Ro} {j : Int} {M M1 : Mem} (h : fa ρ M = .ok (.int j) M1) (h1 : j < 1000000) (h2 : -1000000 < j) : iR1 fa ρ M = .ok ⟨rangeL 0 j.toNat, none⟩ M1 := by
  unfold iR1
  rw [h, Fl.bind_ok]
  dsimp only
  rw [if_pos ⟨h1, h2⟩]
theorem iR1_nat {fa : EF} {ρ : Ro} {n : Nat} {M M1 : Mem} (h : fa ρ M = .ok (.int (n : Nat)) M1) (h1 : n < 1000000) : iR1 fa ρ M = .ok ⟨rangeL 0 n, none⟩ M1 := by
  rw [iR1_ok h (by omega) (by omega), Int.toNat_natCast]
theorem iL_lst {fa : EF} {ρ : Ro} {l : List D} {M M1 : Mem} (h : fa ρ M = .ok (.lst l) M1) : iL fa ρ M = .ok ⟨l, none⟩ M1 := by
  unfold iL
  rw [h]
  rfl
theorem iL_scr {fa : EF} {ρ : Ro} {l : List D} {M M1 : Mem} (h : fa ρ M = .ok (.scr l) M1) : iL fa ρ M = .ok ⟨l, none⟩ M1 := by
  unfold iL
  rw [h]
  rfl
theorem iL_ptr {fa : EF} {ρ : Ro} {k : Nat} {l : List D} {M M1 : Mem} (h : fa ρ M = .ok (.ptr k) M1) (e : M1[k]? = some (.lst l)) : iL fa ρ M = .ok ⟨l, some k⟩ M1 := by
  unfold iL
  rw [h, Fl.bind_ok]
  dsimp only
  rw [e]
theorem len_var {i : Nat} {ρ : Ro} {l : List D} {M : Mem} (h : ρ[i]? = some (some (.lst l))) : eCa lenD (aCons (eVar i) aNil) ρ M = .ok (.int l.length) M := by
  refine (ca_ok (aone_ok (a := .lst l) (M1 := M) ?_)).trans rfl
  unfold eVar
  rw [h]
theorem var_ok {i : Nat} {ρ : Ro} {d : D} {M : Mem} (h : ρ[i]? = some (some d)) : eVar i ρ M = .ok d M := by
  unfold eVar
  rw [h]
theorem ix_lst {l : List D} {k : Nat} {d : D} {M : Mem} (h : l[k]? = some d) : ixD (.lst l) (.int (k : Nat)) M = .ok d M := by
  unfold ixD
  dsimp only [itemsD]
  rw [atI_nat h]
theorem ix_tup {l : List D} {k : Nat} {d : D} {M : Mem} (h : l[k]? = some d) : ixD (.tup l) (.int (k : Nat)) M = .ok d M := by
  unfold ixD
  dsimp only [itemsD]
  rw [atI_nat h]
theorem ix_ptr {l : List D} {j k : Nat} {d : D} {M : Mem} (e : M[j]? = some (.lst l)) (h : l[k]? = some d) : ixD (.ptr j) (.int (k : Nat)) M = .ok d M := by
  unfold ixD
  dsimp only [itemsD]
  rw [e]
  dsimp only
  rw [atI_nat h]
theorem app_ptr {k : Nat} {l : List D} {d : D} {M : Mem} (e : M[k]? = some (.lst l)) (h : l.length < 1000000) : appD (.ptr k) [d] M = .ok .non (M.set k (.lst (l ++ [d]))) := by
  unfold appD
  dsimp only
  rw [e]
  dsimp only
  rw [if_pos h]
theorem eLcP_map {it : Wk} {fi : IF} {vs : List Nat} {g : GF} {fe : EF} {ρ : Ro} {M M0 : Mem} (v : D → D) (hi : fi ρ M0 = .ok it M) (ok : it.ok M) (hz : it.items.length ≤ 1000000)
    (h : ∀ d ∈ it.items, ∃ ρ1, g d (wipeR ρ vs) = some ρ1 ∧ fe ρ1 M = .ok (v d) M) : eLcP fi vs g bYes fe ρ M0 = .ok (.ptr M.length) (M ++ [.lst (it.items.map v)]) := by
  unfold eLcP
  rw [hi, Fl.bind_ok, if_pos hz, lcF_fm (fun d => some (v d)) ok it.items fun d hd => by
    obtain ⟨ρ1, a, b⟩ := h d hd
    exact ⟨ρ1, a, .inl ⟨v d, rfl, rfl, b⟩⟩]
  simp
/-- .. each of whose turns makes one thing that may change -/
theorem lcF_alloc {l0 : List D} {vs : List Nat} {g : GF} {fe : EF} {ρ : Ro} (mo : MO) : ∀ (l : List D) (M : Mem), (∀ d ∈ l, ∃ ρ1, g d (wipeR ρ vs) = some ρ1 ∧ ∀ M, fe ρ1 M = .ok (.ptr M.length) (M ++ [mo])) →
    lcF ⟨l0, none⟩ vs g bYes fe l ρ M = .ok ((List.range l.length).map fun i => .ptr (M.length + i)) (M ++ List.replicate l.length mo)
  | [], M, _ => by
    unfold lcF
    rw [if_pos Wk.ok_none]
    simp
  | d :: l, M, h => by
    obtain ⟨ρ1, e1, e2⟩ := h d List.mem_cons_self
    unfold lcF
    rw [if_pos Wk.ok_none, e1]
    dsimp only
    rw [show bYes ρ1 M = .ok true M from rfl, Fl.bind_ok, if_pos rfl, e2, Fl.bind_ok, lcF_alloc mo l _ fun e he => h e (List.mem_cons_of_mem _ he), Fl.bind_ok, List.length_cons, List.range_succ_eq_map, List.replicate_succ]
    simp
    intro a _
    omega
theorem frzL_map {f : D → Option D} {h : D → D} : ∀ l : List D, (∀ d ∈ l, f d = some (h d)) → frzL f l = some (l.map h)
  | [], _ => rfl
  | d :: l, hh => by
    unfold frzL
    rw [hh d List.mem_cons_self, frzL_map l fun e he => hh e (List.mem_cons_of_mem _ he)]
    rfl
theorem eLcP_step {it : Wk} {fi : IF} {vs : List Nat} {g : GF} {ft : BF} {fe : EF} {ρ : Ro} {M M0 M2 : Mem} {ys : List D} (hi : fi ρ M0 = .ok it M) (hz : it.items.length ≤ 1000000) (h : lcF it vs g ft fe it.items ρ M = .ok ys M2) :
    eLcP fi vs g ft fe ρ M0 = .ok (.ptr M2.length) (M2 ++ [.lst ys]) := by
  unfold eLcP
  rw [hi, Fl.bind_ok, if_pos hz, h]
  rfl
theorem eLcF_step {it : Wk} {fi : IF} {vs : List Nat} {g : GF} {ft : BF} {fe : EF} {ρ : Ro} {M M0 M2 : Mem} {ys : List D} (hi : fi ρ M0 = .ok it M) (hz : it.items.length ≤ 1000000) (h : lcF it vs g ft fe it.items ρ M = .ok ys M2) :
    eLcF fi vs g ft fe ρ M0 = .ok (.lst ys) M2 := by
  unfold eLcF
  rw [hi, Fl.bind_ok, if_pos hz, h]
  rfl
theorem blt_ok {fa fb : EF} {ρ : Ro} {M M1 M2 : Mem} {i j : Int} {k : Bool} (h1 : fa ρ M = .ok (.int i) M1) (h2 : fb ρ M1 = .ok (.int j) M2) (h : decide (i < j) = k) : bOf (eBin ltD fa fb) ρ M = .ok k M2 := bof_ok ((bin_ok h1 h2).trans (by rw [← h]; rfl))
theorem bgt_ok {fa fb : EF} {ρ : Ro} {M M1 M2 : Mem} {i j : Int} {k : Bool} (h1 : fa ρ M = .ok (.int i) M1) (h2 : fb ρ M1 = .ok (.int j) M2) (h : decide (j < i) = k) : bOf (eBin gtD fa fb) ρ M = .ok k M2 := bof_ok ((bin_ok h1 h2).trans (by rw [← h]; rfl))
theorem beqI_ok {fa fb : EF} {ρ : Ro} {M M1 M2 : Mem} {i j : Int} {k : Bool} (h1 : fa ρ M = .ok (.int i) M1) (h2 : fb ρ M1 = .ok (.int j) M2) (h : decide (i = j) = k) : bOf (eBin eqD fa fb) ρ M = .ok k M2 := bof_ok ((bin_ok h1 h2).trans (by rw [← h]; rfl))
theorem beqS_ok {fa fb : EF} {ρ : Ro} {M M1 M2 : Mem} {i j : Str} {k : Bool} (h1 : fa ρ M = .ok (.str i) M1) (h2 : fb ρ M1 = .ok (.str j) M2) (h : decide (i = j) = k) : bOf (eBin eqD fa fb) ρ M = .ok k M2 := bof_ok ((bin_ok h1 h2).trans (by rw [← h]; rfl))
/-! ### == of lists of texts -/
@[simp] theorem toPyL_strs : ∀ l : List Str, toPyL (l.map .str) = some (l.map .str)
  | [] => rfl
  | x :: l => by
    show toPyL (D.str x :: l.map .str) = _
    unfold toPyL
    rw [toPyL_strs l]
    rfl
theorem shaped_strs {l : List Str} (h : ∀ x ∈ l, ∀ c ∈ x.cps.toList, c < 1114112) : SeqAt.shaped (.list (l.map .str)) = true := by
  have h1 : PyData.canLayAll0 (l.map PyData.str) = true := by
    induction l with
    | nil => rfl
    | cons x l ih =>
      rw [List.map_cons, PyData.canLayAll0.eq_2, ih fun y hy => h y (List.mem_cons_of_mem _ hy), PyData.canLay0.eq_4, Bool.and_true]
      unfold PyData.strOk
      rw [Array.all_eq_true_iff_forall_mem]
      intro c hc
      exact decide_eq_true (h x List.mem_cons_self c (Array.mem_toList_iff.mpr hc))
  have h2 : PyData.depthAll (l.map PyData.str) = 0 := by
    clear h h1
    induction l with
    | nil => rfl
    | cons x l ih =>
      rw [List.map_cons]
      unfold PyData.depthAll
      rw [ih]
      rfl
  unfold SeqAt.shaped
  rw [PyData.canLay0.eq_5, h1]
  have h3 : (PyData.list (l.map PyData.str)).depth = 1 := by
    unfold PyData.depth
    rw [h2]
  rw [h3]
  rfl
theorem eqv_strs : ∀ l m : List Str, PyData.eqvAll (l.map .str) (m.map .str) = decide (l = m)
  | [], [] => rfl
  | [], _ :: _ => rfl
  | _ :: _, [] => rfl
  | x :: l, y :: m => by
    show (PyData.eqv (.str x) (.str y) && PyData.eqvAll (l.map .str) (m.map .str)) = _
    rw [eqv_strs l m]
    show ((x == y) && _) = _
    by_cases h1 : x = y
    · by_cases h2 : l = m
      · simp [h1, h2]
      · simp [h1, h2]
    · simp [h1]
theorem eqD_strs {a b : D} {M : Mem} {l m : List Str} (ha : viewD M a = .lst (l.map .str)) (hb : viewD M b = .lst (m.map .str)) (hl : ∀ x ∈ l, ∀ c ∈ x.cps.toList, c < 1114112) (hm : ∀ x ∈ m, ∀ c ∈ x.cps.toList, c < 1114112) : eqG a b M = some (decide (l = m)) := by
  unfold eqG
  rw [ha, hb]
  have e : ∀ l : List Str, toPy (.lst (l.map .str)) = some (.list (l.map .str)) := fun l => by
    unfold toPy
    rw [toPyL_strs]
    rfl
  rw [e, e]
  dsimp only
  rw [if_pos ⟨shaped_strs hl, shaped_strs hm⟩]
  congr 1
  exact eqv_strs l m
end MM

/-! MMt: texts: split, join, replace by one sign. -/
namespace MM
open PySem PySem.Spec PyProof.Rows L2 TL
/-- cut at each s -/
def splS (s : Nat) : List Nat → List Nat → List (List Nat)
  | acc, [] => [acc]
  | acc, c :: r => if c = s then acc :: splS s [] r else splS s (acc ++ [c]) r
theorem splS_cons (s c : Nat) (r acc : List Nat) : splS s acc (c :: r) = if c = s then acc :: splS s [] r else splS s (acc ++ [c]) r := rfl
theorem spl_one (s : Nat) : ∀ (l acc : List Nat), spl [s] 0 acc l = splS s acc l
  | [], acc => spl_nil _ _ _
  | c :: r, acc => by
    unfold splS
    by_cases h : c = s
    · subst h
      rw [if_pos rfl, spl_hit (by unfold pre; simp), ← spl_one c r []]
      rfl
    · rw [if_neg h, spl_miss (by unfold pre; simpa using h), spl_one s r]
theorem split_one (x y : Str) (s : Nat) (hy : tl y = [s]) (hs : s < 256) : (Txt.split x y).map tl = splS s [] (tl x) := by
  rw [split_spl x y (by rw [hy]; exact fun z => by cases z) (kind_ok (by
    have : y.cps = #[s] := by
      have := congrArg List.toArray hy
      simpa [tl] using this
    rw [this]
    simp [hs])), hy, spl_one]
theorem splS_none (s : Nat) : ∀ (p acc : List Nat), s ∉ p → splS s acc p = [acc ++ p]
  | [], acc, _ => by simp [splS]
  | c :: r, acc, h => by
    rw [List.mem_cons, not_or] at h
    unfold splS
    rw [if_neg (Ne.symm h.1), splS_none s r _ h.2, List.append_assoc]
    rfl
theorem splS_hit (s : Nat) : ∀ (p acc r : List Nat), s ∉ p → splS s acc (p ++ s :: r) = (acc ++ p) :: splS s [] r
  | [], acc, r, _ => by simp [splS]
  | c :: p, acc, r, h => by
    rw [List.mem_cons, not_or] at h
    rw [List.cons_append, splS_cons]
    rw [if_neg (Ne.symm h.1), splS_hit s p _ r h.2, List.append_assoc]
    rfl
theorem splS_mem (s : Nat) : ∀ (l acc : List Nat) (p : List Nat), p ∈ splS s acc l → ∀ c ∈ p, c ∈ acc ∨ c ∈ l
  | [], acc, p, h, c, hc => by
    unfold splS at h
    rw [List.mem_singleton] at h
    exact .inl (h ▸ hc)
  | d :: r, acc, p, h, c, hc => by
    unfold splS at h
    split at h
    · rcases List.mem_cons.mp h with h | h
      · exact .inl (h ▸ hc)
      · rcases splS_mem s r [] p h c hc with h | h
        · cases h
        · exact .inr (List.mem_cons_of_mem _ h)
    · rcases splS_mem s r _ p h c hc with h | h
      · rcases List.mem_append.mp h with h | h
        · exact .inl h
        · exact .inr (by rw [List.mem_singleton] at h; rw [h]; exact List.mem_cons_self)
      · exact .inr (List.mem_cons_of_mem _ h)
theorem splS_len (s : Nat) : ∀ (l acc : List Nat), (splS s acc l).length ≤ l.length + 1
  | [], acc => by simp [splS]
  | d :: r, acc => by
    unfold splS
    split
    · rw [List.length_cons, List.length_cons]
      have := splS_len s r []
      omega
    · rw [List.length_cons]
      have := splS_len s r (acc ++ [d])
      omega
theorem join_tl (z : Str) : ∀ ps : List Str, tl (Txt.join z ps) = PySem.StrLaws.glueT (tl z) ps
  | [] => rfl
  | p :: r => PySem.StrLaws.glued_list z p r
theorem splS_glueL (s : Nat) : ∀ (ps : List Str) (acc : List Nat), (∀ p ∈ ps, s ∉ tl p) → splS s acc (PySem.StrLaws.glueL [s] ps) = acc :: ps.map tl
  | [], acc, _ => rfl
  | p :: r, acc, h => by
    show splS s acc ([s] ++ (tl p ++ PySem.StrLaws.glueL [s] r)) = _
    have e : splS s acc ([s] ++ (tl p ++ PySem.StrLaws.glueL [s] r)) = acc :: splS s [] (tl p ++ PySem.StrLaws.glueL [s] r) := splS_hit s [] acc _ (by simp) |>.trans (by simp)
    rw [e]
    have hp := h p List.mem_cons_self
    cases r with
    | nil => 
      rw [show PySem.StrLaws.glueL [s] [] = [] from rfl, List.append_nil, splS_none s _ _ hp]
      rfl
    | cons p2 r =>
      rw [show PySem.StrLaws.glueL [s] (p2 :: r) = s :: (tl p2 ++ PySem.StrLaws.glueL [s] r) from rfl, splS_hit s _ _ _ hp]
      have ih := splS_glueL s (p2 :: r) [] (fun q hq => h q (List.mem_cons_of_mem _ hq))
      rw [show PySem.StrLaws.glueL [s] (p2 :: r) = [] ++ s :: (tl p2 ++ PySem.StrLaws.glueL [s] r) from rfl, splS_hit s _ _ _ (by simp)] at ih
      simp only [List.nil_append] at ih ⊢
      have ih := List.tail_eq_of_cons_eq ih
      rw [ih]
      rfl
/-- parts joined are parted again -/
theorem split_join (y : Str) (s : Nat) (hy : tl y = [s]) (hs : s < 256) (ps : List Str) (h0 : ps ≠ []) (h : ∀ p ∈ ps, s ∉ tl p) : Txt.split (Txt.join y ps) y = ps := by
  refine map_tl_inj ?_
  rw [split_one _ y s hy hs, join_tl, hy]
  cases ps with
  | nil => exact absurd rfl h0
  | cons p r =>
    have hp := h p List.mem_cons_self
    cases r with
    | nil =>
      rw [show PySem.StrLaws.glueT [s] [p] = tl p ++ [] from rfl, List.append_nil, splS_none s _ _ hp]
      rfl
    | cons p2 r =>
      rw [show PySem.StrLaws.glueT [s] (p :: p2 :: r) = tl p ++ s :: (tl p2 ++ PySem.StrLaws.glueL [s] r) from rfl, splS_hit s _ _ _ hp]
      have ih := splS_glueL s (p2 :: r) [] (fun q hq => h q (List.mem_cons_of_mem _ hq))
      rw [show PySem.StrLaws.glueL [s] (p2 :: r) = [] ++ s :: (tl p2 ++ PySem.StrLaws.glueL [s] r) from rfl, splS_hit s _ _ _ (by simp)] at ih
      simp only [List.nil_append] at ih ⊢
      have ih := List.tail_eq_of_cons_eq ih
      rw [ih]
      rfl
theorem split_nil (y : Str) (s : Nat) (hy : tl y = [s]) (hs : s < 256) (x : Str) (hx : tl x = []) : Txt.split x y = [x] := by
  refine map_tl_inj ?_
  rw [split_one _ y s hy hs, hx]
  show [[]] = [tl x]
  rw [hx]
theorem glueT_mem (z : List Nat) : ∀ (ps : List Str) (c : Nat), c ∈ PySem.StrLaws.glueT z ps → c ∈ z ∨ ∃ p ∈ ps, c ∈ tl p := by
  have gl : ∀ (ps : List Str) (c : Nat), c ∈ PySem.StrLaws.glueL z ps → c ∈ z ∨ ∃ p ∈ ps, c ∈ tl p := by
    intro ps
    induction ps with
    | nil => intro c h; cases h
    | cons p r ih =>
      intro c h
      rcases List.mem_append.mp (show c ∈ z ++ (tl p ++ PySem.StrLaws.glueL z r) from h) with h | h
      · exact .inl h
      · rcases List.mem_append.mp h with h | h
        · exact .inr ⟨p, List.mem_cons_self, h⟩
        · rcases ih c h with h | ⟨q, hq, h⟩
          · exact .inl h
          · exact .inr ⟨q, List.mem_cons_of_mem _ hq, h⟩
  intro ps c h
  cases ps with
  | nil => cases h
  | cons p r =>
    rcases List.mem_append.mp (show c ∈ tl p ++ PySem.StrLaws.glueL z r from h) with h | h
    · exact .inr ⟨p, List.mem_cons_self, h⟩
    · rcases gl r c h with h | ⟨q, hq, h⟩
      · exact .inl h
      · exact .inr ⟨q, List.mem_cons_of_mem _ hq, h⟩
theorem glueT_len (z : List Nat) (B : Nat) : ∀ ps : List Str, (∀ p ∈ ps, p.length ≤ B) → (PySem.StrLaws.glueT z ps).length ≤ ps.length * (B + z.length) := by
  have gl : ∀ ps : List Str, (∀ p ∈ ps, p.length ≤ B) → (PySem.StrLaws.glueL z ps).length ≤ ps.length * (B + z.length) := by
    intro ps
    induction ps with
    | nil => intro _; exact Nat.zero_le _
    | cons p r ih =>
      intro h
      have h1 := h p List.mem_cons_self
      have h2 := ih fun q hq => h q (List.mem_cons_of_mem _ hq)
      show (z ++ (tl p ++ PySem.StrLaws.glueL z r)).length ≤ (r.length + 1) * (B + z.length)
      rw [List.length_append, List.length_append, Nat.succ_mul]
      rw [len_tl] at h1
      omega
  intro ps h
  cases ps with
  | nil => exact Nat.zero_le _
  | cons p r =>
    have h1 := h p List.mem_cons_self
    have h2 := gl r fun q hq => h q (List.mem_cons_of_mem _ hq)
    show (tl p ++ PySem.StrLaws.glueL z r).length ≤ (r.length + 1) * (B + z.length)
    rw [List.length_append, Nat.succ_mul]
    rw [len_tl] at h1
    omega
theorem sum_len {B : Nat} : ∀ ps : List Str, (∀ p ∈ ps, p.length ≤ B) → (ps.map (·.length)).sum ≤ ps.length * B
  | [], _ => Nat.zero_le _
  | p :: r, h => by
    have h1 := h p List.mem_cons_self
    have h2 := sum_len r fun q hq => h q (List.mem_cons_of_mem _ hq)
    rw [List.map_cons, List.sum_cons, List.length_cons, Nat.succ_mul]
    omega
theorem replL_mem (y z : List Nat) : ∀ (l : List Nat) (k : Nat) (c : Nat), c ∈ PySem.StrLaws.replS y z k l → c ∈ z ∨ c ∈ l
  | [], k, c, h => by
    unfold PySem.StrLaws.replS at h
    cases h
  | d :: r, 0, c, h => by
    unfold PySem.StrLaws.replS at h
    split at h
    · rcases List.mem_append.mp h with h | h
      · exact .inl h
      · exact (replL_mem y z r _ c h).imp id (List.mem_cons_of_mem _)
    · rcases List.mem_cons.mp h with h | h
      · exact .inr (h ▸ List.mem_cons_self)
      · exact (replL_mem y z r _ c h).imp id (List.mem_cons_of_mem _)
  | d :: r, k + 1, c, h => by
    unfold PySem.StrLaws.replS at h
    exact (replL_mem y z r _ c h).imp id (List.mem_cons_of_mem _)
theorem repl_mem {x y z : Str} (hy : 1 ≤ y.length) {c : Nat} (h : c ∈ tl (Txt.replace x y z)) : c ∈ tl z ∨ c ∈ tl x := by
  have e : tl (Txt.replace x y z) = PySem.StrLaws.replL (tl y) (tl z) (tl x) := PySem.StrLaws.replace_list hy
  rw [e] at h
  exact replL_mem _ _ _ _ _ h
theorem split_mem {x y : Str} {s : Nat} (hy : tl y = [s]) (hs : s < 256) {p : Str} (h : p ∈ Txt.split x y) {c : Nat} (hc : c ∈ tl p) : c ∈ tl x := by
  have e := split_one x y s hy hs
  have hp : tl p ∈ splS s [] (tl x) := by rw [← e]; exact List.mem_map.mpr ⟨p, h, rfl⟩
  rcases splS_mem s _ _ _ hp c hc with h | h
  · cases h
  · exact h
theorem split_len {x y : Str} {s : Nat} (hy : tl y = [s]) (hs : s < 256) : (Txt.split x y).length ≤ x.length + 1 := by
  have e := congrArg List.length (split_one x y s hy hs)
  rw [List.length_map] at e
  rw [e, len_tl]
  exact splS_len s _ _
/-- it doesn't begin with a sign that it has not -/
theorem starts_no {x y : Str} {s : Nat} (hy : tl y = [s]) (h : s ∉ tl x) : Txt.startswith x y = false := by
  have hy1 : y.length = 1 := by rw [len_tl, hy]; rfl
  cases e : Txt.startswith x y with
  | false => rfl
  | true =>
    unfold Txt.startswith at e
    rw [Bool.and_eq_true] at e
    have h0 : PySem.StrLaws.At x y x.length 0 := ⟨of_decide_eq_true e.1, e.2⟩
    have q := (at_iff (x := x) (y := y) (by rw [hy]; exact fun z => by cases z) 0).mp h0
    rw [hy, List.drop_zero] at q
    unfold pre at q
    have q := beq_iff_eq.mp q
    have : s ∈ (tl x).take 1 := by
      have : (tl x).take [s].length = [s] := q
      rw [show [s].length = 1 from rfl] at this
      rw [this]
      exact List.mem_singleton.mpr rfl
    exact absurd (List.mem_of_mem_take this) h
end MM

namespace MM.Law
open PySem PySem.Spec PyProof.Rows L2
noncomputable def B_common_lengths : SF :=
  (sSeq (sSet 2 (eLcP (iR1 (eBin addD (eCa lenD (aCons (eVar 0) aNil)) (eC (.int 1)))) [3] (gNm 3) bYes (eLcP (iR1 (eBin addD (eCa lenD (aCons (eVar 1) aNil)) (eC (.int 1)))) [4] (gNm 4) bYes (eC (.int 0)))))
    (sSeq (sFor (iRev1 (eCa lenD (aCons (eVar 0) aNil))) (gNm 3) (sFor (iRev1 (eCa lenD (aCons (eVar 1) aNil))) (gNm 4) (sIf (bOf (eBin eqD (eBin ixD (eBin ixD (eVar 0) (eVar 3)) (eC (.int 0))) (eBin ixD (eVar 1) (eVar 4)))) (sSetIx (eBin ixD (eVar 2) (eVar 3)) (eVar 4) (eBin addD (eBin ixD (eBin ixD (eVar 2) (eBin addD (eVar 3) (eC (.int 1)))) (eBin addD (eVar 4) (eC (.int 1)))) (eC (.int 1)))) (sSetIx (eBin ixD (eVar 2) (eVar 3)) (eVar 4) (eCa maxD (aCons (eBin ixD (eBin ixD (eVar 2) (eBin addD (eVar 3) (eC (.int 1)))) (eVar 4)) (aCons (eBin ixD (eBin ixD (eVar 2) (eVar 3)) (eBin addD (eVar 4) (eC (.int 1)))) aNil)))))))
    (sRet (eVar 2))))
def N_common_lengths : List Str := ["rows", "lines", "found", "i", "j"]
noncomputable def G_common_lengths : PF := fun ds => fin (B_common_lengths (startR N_common_lengths ds) [])
noncomputable def B_law_cell_at : SF :=
  (sSeq (sIf (bOf (eBin ltD (eVar 1) (eCa lenD (aCons (eVar 0) aNil)))) (sRet (eBin ixD (eVar 0) (eVar 1))) sNext)
    (sRet (eC (.int 0))))
def N_law_cell_at : List Str := ["_law_script", "_law_k"]
noncomputable def G_law_cell_at : PF := fun ds => fin (B_law_cell_at (startR N_law_cell_at ds) [])
noncomputable def B_law_mixed : SF :=
  (sSeq (sSet 2 (eBin modD (eBin mulD (eBin addD (eBin addD (eVar 0) (eBin mulD (eC (.int 7919)) (eVar 1))) (eC (.int 1))) (eC (.int 48271))) (eC (.int 2147483647))))
    (sRet (eBin modD (eBin mulD (eVar 2) (eBin addD (eBin divD (eVar 2) (eC (.int 1009))) (eC (.int 69621)))) (eC (.int 2147483647)))))
def N_law_mixed : List Str := ["_law_cell", "_law_k", "_law_number"]
noncomputable def G_law_mixed : PF := fun ds => fin (B_law_mixed (startR N_law_mixed ds) [])
noncomputable def B_law_word : SF :=
  (sSeq (sSet 1 (eC (.str "abcxyz019+-*.!&|^?~=/")))
    (sSeq (sSet 2 (eC (.str "")))
    (sSeq (sFor (iR1 (eBin addD (eC (.int 1)) (eBin modD (eVar 0) (eC (.int 4))))) (gNm 3) (sSet 2 (eBin addD (eVar 2) (eBin ixD (eVar 1) (eBin modD (eBin divD (eVar 0) (eBin addD (eC (.int 4)) (eBin mulD (eC (.int 7)) (eVar 3)))) (eCa lenD (aCons (eVar 1) aNil)))))))
    (sRet (eVar 2)))))
def N_law_word : List Str := ["_law_number", "_law_some", "_law_word_here", "_law_k"]
noncomputable def G_law_word : PF := fun ds => fin (B_law_word (startR N_law_word ds) [])
noncomputable def B_law_rows : SF :=
  (sRet (eLcF (iL (eMt "str" splitD (eVar 0) (aCons (eC (.str "\n")) aNil))) [1] (gNm 1) (bOf (eBin neD (eVar 1) (eC (.str "")))) (eVar 1)))
def N_law_rows : List Str := ["_law_text", "_law_row_here"]
noncomputable def G_law_rows : PF := fun ds => fin (B_law_rows (startR N_law_rows ds) [])
noncomputable def B_laid_among : SF :=
  (sSeq (sSet 3 (eCall 2 G_common_lengths (aCons (eVar 0) (aCons (eVar 1) aNil))))
    (sSeq (sSet 4 (eCa lstP aNil))
    (sSeq (sSet 5 (eC (.int 0)))
    (sSeq (sSet 6 (eC (.int 0)))
    (sSeq (sWhile 100000 (bOr (bOf (eBin ltD (eVar 5) (eCa lenD (aCons (eVar 0) aNil)))) (bOf (eBin ltD (eVar 6) (eCa lenD (aCons (eVar 1) aNil))))) (sIf (bAnd (bOf (eBin ltD (eVar 5) (eCa lenD (aCons (eVar 0) aNil)))) (bAnd (bOf (eBin ltD (eVar 6) (eCa lenD (aCons (eVar 1) aNil)))) (bOf (eBin eqD (eBin ixD (eBin ixD (eVar 0) (eVar 5)) (eC (.int 0))) (eBin ixD (eVar 1) (eVar 6)))))) (sSeq (sEx (eMt "list" appD (eVar 4) (aCons (eCa tupD (aCons (eBin ixD (eVar 1) (eVar 6)) (aCons (eBin orD (eBin ixD (eBin ixD (eVar 0) (eVar 5)) (eC (.int 1))) (eVar 2)) aNil))) aNil)))
    (sSeq (sAug 5 iaddD (eC (.int 1)))
    (sAug 6 iaddD (eC (.int 1))))) (sIf (bOr (bOf (eBin eqD (eVar 6) (eCa lenD (aCons (eVar 1) aNil)))) (bAnd (bOf (eBin ltD (eVar 5) (eCa lenD (aCons (eVar 0) aNil)))) (bOf (eBin geD (eBin ixD (eBin ixD (eVar 3) (eBin addD (eVar 5) (eC (.int 1)))) (eVar 6)) (eBin ixD (eBin ixD (eVar 3) (eVar 5)) (eBin addD (eVar 6) (eC (.int 1)))))))) (sSeq (sEx (eMt "list" appD (eVar 4) (aCons (eBin ixD (eVar 0) (eVar 5)) aNil)))
    (sAug 5 iaddD (eC (.int 1)))) (sSeq (sEx (eMt "list" appD (eVar 4) (aCons (eCa tupD (aCons (eBin ixD (eVar 1) (eVar 6)) (aCons (eVar 2) aNil))) aNil)))
    (sAug 6 iaddD (eC (.int 1)))))))
    (sRet (eVar 4)))))))
def N_laid_among : List Str := ["rows", "lines", "mask", "most", "found", "i", "j"]
noncomputable def G_laid_among : PF := fun ds => fin (B_laid_among (startR N_laid_among ds) [])
noncomputable def B_law_row : SF :=
  (sRet (eMt "str" joinD (eC (.str " ")) (aCons (eLcF (iR1 (eBin addD (eC (.int 1)) (eBin modD (eVar 0) (eC (.int 4))))) [1] (gNm 1) bYes (eCall 1 G_law_word (aCons (eCall 2 G_law_mixed (aCons (eVar 0) (aCons (eVar 1) aNil))) aNil))) aNil)))
def N_law_row : List Str := ["_law_number", "_law_k"]
noncomputable def G_law_row : PF := fun ds => fin (B_law_row (startR N_law_row ds) [])
noncomputable def B_law_filled : SF :=
  (sSeq (sSet 3 (eCa lstP aNil))
    (sSeq (sFor (iR1 (eCa lenD (aCons (eVar 0) aNil))) (gNm 4) (sSeq (sIf (bAnd (bOf (eBin eqD (eBin modD (eCall 2 G_law_mixed (aCons (eVar 1) (aCons (eVar 4) aNil))) (eC (.int 3))) (eC (.int 0)))) (bOf (eBin gtD (eVar 2) (eC (.int 0))))) (sSeq (sEx (eMt "list" appD (eVar 3) (aCons (eC (.str "")) aNil)))
    (sSet 2 (eBin subD (eVar 2) (eC (.int 1))))) sNext)
    (sEx (eMt "list" appD (eVar 3) (aCons (eBin ixD (eVar 0) (eVar 4)) aNil)))))
    (sRet (eVar 3))))
def N_law_filled : List Str := ["_law_rows_here", "_law_cell", "_law_most", "_law_found", "_law_k"]
noncomputable def G_law_filled : PF := fun ds => fin (B_law_filled (startR N_law_filled ds) [])
noncomputable def B_joined : SF :=
  (sSeq (sSet 2 (eCa lstF aNil))
    (sSeq (sFor (iEn (eVar 0)) (gTp 2 (gC (gNm 5) (gC (gNm 6) gN))) (sSet 2 (eCall 3 G_laid_among (aCons (eVar 2) (aCons (eLcF (iL (eMt "str" splitD (eVar 6) (aCons (eC (.str "\n")) aNil))) [7] (gNm 7) (bOf (eBin neD (eVar 7) (eC (.str "")))) (eVar 7)) (aCons (eBin shlD (eC (.int 1)) (eVar 5)) aNil))))))
    (sSeq (sSet 3 (eBin subD (eBin shlD (eC (.int 1)) (eCa lenD (aCons (eVar 0) aNil))) (eC (.int 1))))
    (sSeq (sSet 4 (eCa lstP aNil))
    (sSeq (sFor (iL (eVar 2)) (gTp 2 (gC (gNm 7) (gC (gNm 8) gN))) (sIf (bOf (eBin eqD (eVar 8) (eVar 3))) (sEx (eMt "list" appD (eVar 4) (aCons (eVar 7) aNil))) (sEx (eMt "list" appD (eVar 4) (aCons (eBin addD (eBin addD (eBin addD (eBin addD (eC (.str "<")) eFail) (eC (.str " "))) (eVar 7)) (eC (.str " >"))) aNil)))))
    (sRet (eMt "str" joinD (eC (.str "\n")) (aCons (eVar 4) aNil))))))))
def N_joined : List Str := ["texts", "n", "rows", "whole", "lines", "i", "text", "line", "mask"]
noncomputable def G_joined : PF := fun ds => fin (B_joined (startR N_joined ds) [])
noncomputable def B_law : SF :=
  (sSeq (sSet 1 (eCa lstP aNil))
    (sSeq (sFor (iL (eSl (eVar 0) (oIx (eC (.int 3))) (oIx (eC (.int 11))))) (gNm 2) (sIf (bAnd (bOf (eBin eqD (eBin modD (eVar 2) (eC (.int 5))) (eC (.int 0)))) (bOf (eBin neD (eVar 1) (eCa lstF aNil)))) (sEx (eMt "list" appD (eVar 1) (aCons (eBin ixD (eVar 1) (eBin modD (eBin divD (eVar 2) (eC (.int 5))) (eCa lenD (aCons (eVar 1) aNil)))) aNil))) (sEx (eMt "list" appD (eVar 1) (aCons (eCall 1 G_law_row (aCons (eCall 2 G_law_mixed (aCons (eVar 2) (aCons (eC (.int 1)) aNil))) aNil)) aNil)))))
    (sSeq (sFrz 1 (sSet 3 (eBin addD (eC (.int 1)) (eBin modD (eCall 2 G_law_cell_at (aCons (eVar 0) (aCons (eC (.int 0)) aNil))) (eC (.int 16))))))
    (sSeq (sWhile 100 (bOf (eBin gtD (eBin mulD (eVar 3) (eBin addD (eCa lenD (aCons (eVar 1) aNil)) (eC (.int 1)))) (eC (.int 60)))) (sSet 3 (eBin subD (eVar 3) (eC (.int 1)))))
    (sSeq (sSet 4 (eC (.int 0)))
    (sSeq (sWhile 100 (bOf (eBin ltD (eBin shlD (eC (.int 1)) (eVar 4)) (eVar 3))) (sSet 4 (eBin addD (eVar 4) (eC (.int 1)))))
    (sSeq (sSet 4 (eCa minD (aCons (eC (.int 10)) (aCons (eBin addD (eVar 4) (eBin modD (eCall 2 G_law_cell_at (aCons (eVar 0) (aCons (eC (.int 1)) aNil))) (eC (.int 5)))) aNil))))
    (sSeq (sSet 5 (eBin subD (eBin divD (eC (.int 60)) (eVar 3)) (eCa lenD (aCons (eVar 1) aNil))))
    (sSeq (sSet 6 (eCa lstP aNil))
    (sSeq (sFor (iR1 (eVar 3)) (gNm 7) (sEx (eMt "list" appD (eVar 6) (aCons (eMt "str" joinD (eC (.str "\n")) (aCons (eCall 3 G_law_filled (aCons (eVar 1) (aCons (eBin addD (eCall 2 G_law_cell_at (aCons (eVar 0) (aCons (eC (.int 2)) aNil))) (eVar 7)) (aCons (eVar 5) aNil)))) aNil)) aNil))))
    (sSeq (sFrz 6 (sSet 8 (eCall 2 G_joined (aCons (eVar 6) (aCons (eVar 4) aNil)))))
    (sSeq (sIf (bNot (bOf (eUn (isiD "str") (eVar 8)))) (sRet (eC (.bl false))) sNext)
    (sSeq (sFor (iL (eSplitT (eRepl "\n" " " (eVar 8)) (eC (.str " ")))) (gNm 9) (sIf (bOr (bOf (eMt "str" startsD (eVar 9) (aCons (eC (.str "<")) aNil))) (bOf (eBin eqD (eVar 9) (eC (.str ">"))))) (sRet (eC (.bl false))) sNext))
    (sRet (eBin eqD (eCall 1 G_law_rows (aCons (eVar 8) aNil)) (eVar 1))))))))))))))))
def N_law : List Str := ["_law_script", "_law_rows_here", "_law_cell", "_law_many_texts", "_law_n", "_law_room", "_law_texts", "_law_k", "_law_found", "_law_word_here"]
noncomputable def G_law : PF := fun ds => fin (B_law (startR N_law ds) [])
end MM.Law

namespace MM.Law
open PySem PySem.Spec PyProof.Rows L2 TL
theorem g_cell (ns : List Int) (k : Nat) : G_law_cell_at [.scr (ns.map .int), .int k] = .ok (.int (ns.getD k 0)) := by
  unfold G_law_cell_at B_law_cell_at
  by_cases h : k < ns.length
  · simp [startR, N_law_cell_at, sSeq, sIf, bOf, eBin, eVar, ltD, eCa, lenD, aCons, aNil, itemsD, sRet, eC, h, ixD, atI, ixN, fin_rt]
  · simp [startR, N_law_cell_at, sSeq, sIf, bOf, eBin, eVar, ltD, eCa, lenD, aCons, aNil, itemsD, sRet, eC, h, ixD, sNext, fin_rt]
def mixN (c k : Int) : Int := (c + 7919 * k + 1) * 48271 % 2147483647 * ((c + 7919 * k + 1) * 48271 % 2147483647 / 1009 + 69621) % 2147483647
theorem mix_nn (c k : Int) : 0 ≤ mixN c k := Int.emod_nonneg _ (by decide)
theorem mix_lt (c k : Int) : mixN c k < 2147483647 := Int.emod_lt_of_pos _ (by decide)
theorem g_mixed (c k : Int) : G_law_mixed [.int c, .int k] = .ok (.int (mixN c k)) := by
  unfold G_law_mixed B_law_mixed
  have h1 : 0 ≤ (c + 7919 * k + 1) * 48271 % 2147483647 := Int.emod_nonneg _ (by decide)
  have h2 : (c + 7919 * k + 1) * 48271 % 2147483647 < 2147483647 := Int.emod_lt_of_pos _ (by decide)
  have h3 : (-18446744073709551616 < (c + 7919 * k + 1) * 48271 % 2147483647 ∧ (c + 7919 * k + 1) * 48271 % 2147483647 < 18446744073709551616) := by omega
  simp [startR, N_law_mixed, sSeq, sSet, eBin, eVar, addD, mulD, modD, divD, sRet, eC, h3, fin_rt]
  rfl
/-! ### words and rows -/
def Fine (x : Str) : Prop := ∀ c ∈ tl x, c < 128 ∧ c ≠ 10 ∧ c ≠ 60 ∧ c ≠ 62
theorem atI_in {α : Type} {l : List α} {k : Int} (h0 : 0 ≤ k) (h1 : k < l.length) : ∃ c, atI l k = some c ∧ c ∈ l := by
  have h : k.toNat < l.length := by omega
  refine ⟨l[k.toNat], ?_, List.getElem_mem h⟩
  unfold atI ixN
  rw [if_pos h0, if_pos h1]
  exact List.getElem?_eq_getElem h
theorem fine_app {x y : Str} (hx : Fine x) (hy : Fine y) : Fine (x ++ y) := fun c hc => by
  rw [tl_append] at hc
  exact (List.mem_append.mp hc).elim (hx c) (hy c)
def alpha : Str := "abcxyz019+-*.!&|^?~=/"
theorem alpha_tl : tl alpha = [97, 98, 99, 120, 121, 122, 48, 49, 57, 43, 45, 42, 46, 33, 38, 124, 94, 63, 126, 61, 47] := by decide +kernel
theorem alpha_len : alpha.length = 21 := by rw [len_tl, alpha_tl]; rfl
theorem len_app (x y : Str) : (x ++ y).length = x.length + y.length := by rw [len_tl, tl_append, List.length_append, ← len_tl, ← len_tl]
theorem g_word (n : Int) (hn : 0 ≤ n) : ∃ w, G_law_word [.int n] = .ok (.str w) ∧ Fine w ∧ 1 ≤ w.length ∧ w.length ≤ 4 := by
  unfold G_law_word B_law_word
  rw [show startR N_law_word [.int n] = [some (.int n), none, none, none] from rfl]
  rw [seq_nx (ρ1 := [some (.int n), some (.str alpha), none, none]) (M1 := []) rfl, seq_nx (ρ1 := [some (.int n), some (.str alpha), some (.str ""), none]) (M1 := []) rfl]
  have hm0 : 0 ≤ n % 4 := Int.emod_nonneg _ (by decide)
  have hm1 : n % 4 < 4 := Int.emod_lt_of_pos _ (by decide)
  obtain ⟨ρ', M', e, hM, w, k, rfl, hf, hl⟩ := sFor_nx (ρ := [some (.int n), some (.str alpha), some (.str ""), none]) (M := []) (M0 := []) (it := ⟨rangeL 0 (1 + n % 4).toNat, none⟩)
    (fi := iR1 (eBin addD (eC (.int 1)) (eBin modD (eVar 0) (eC (.int 4))))) (g := gNm 3) (body := sSet 2 (eBin addD (eVar 2) (eBin ixD (eVar 1) (eBin modD (eBin divD (eVar 0) (eBin addD (eC (.int 4)) (eBin mulD (eC (.int 7)) (eVar 3)))) (eCa lenD (aCons (eVar 1) aNil))))))
    (fun j ρ M => M = [] ∧ ∃ w k, ρ = [some (.int n), some (.str alpha), some (.str w), k] ∧ Fine w ∧ w.length = j) (by
      simp [iR1, eBin, addD, modD, eC, eVar]
      omega) (by
      rintro j d ρ M hd ⟨rfl, w, k, rfl, hf, hl⟩
      obtain ⟨hj, rfl⟩ := rangeL_get hd
      refine ⟨trivial, _, rfl, ?_⟩
      have hq0 : 0 ≤ n / (4 + 7 * (0 + (j : Int))) % 21 := Int.emod_nonneg _ (by decide)
      have hq1 : n / (4 + 7 * (0 + (j : Int))) % 21 < 21 := Int.emod_lt_of_pos _ (by decide)
      obtain ⟨c, hc, hm⟩ := atI_in (l := alpha.cps.toList) (k := n / (4 + 7 * (0 + (j : Int))) % 21) hq0 (by rw [show alpha.cps.toList = _ from alpha_tl]; exact hq1)
      refine ⟨[some (.int n), some (.str alpha), some (.str (w ++ ⟨#[c]⟩)), some (.int (0 + j))], [], .inl ?_, rfl, _, _, rfl, fine_app hf fun c' hc' => ?_, ?_⟩
      · have h1 : (0 : Int) < 4 + 7 * (0 + (j : Int)) ∧ 4 + 7 * (0 + (j : Int)) < 1073741824 := by omega
        have h2 : (⟨#[c]⟩ : Str).length = 1 := rfl
        simp [gNm, sSet, eBin, addD, ixD, eVar, eCa, lenD, aCons, aNil, mulD, divD, modD, eC, alpha_len] at *
        rw [if_pos h1]
        simp [hc, h2]
        rw [if_pos (by omega)]
        rfl
      · have : c' = c := by simpa [tl] using hc'
        rw [this]
        have hm : c ∈ tl alpha := hm
        rw [alpha_tl] at hm
        have : ∀ c ∈ [97, 98, 99, 120, 121, 122, 48, 49, 57, 43, 45, 42, 46, 33, 38, 124, 94, 63, 126, 61, 47], c < 128 ∧ c ≠ 10 ∧ c ≠ 60 ∧ c ≠ 62 := by decide
        exact this c hm
      · rw [len_app, hl]
        rfl) (fun _ _ _ => trivial) ⟨rfl, "", none, rfl, (fun c hc => by cases hc), rfl⟩
  rw [seq_nx e]
  refine ⟨w, fin_rt trivial, hf, ?_, ?_⟩
  · rw [hl]
    simp
    omega
  · rw [hl]
    simp
    omega

/-- a row of words -/
def Row (x : Str) : Prop := Fine x ∧ 1 ≤ x.length ∧ x.length ≤ 40
theorem tl_sp : tl (" " : Str) = [32] := by decide +kernel
theorem tl_nl : tl ("\n" : Str) = [10] := by decide +kernel
theorem g_row (n : Int) (hn : 0 ≤ n) : ∃ w, G_law_row [.int n] = .ok (.str w) ∧ Row w := by
  unfold G_law_row B_law_row
  rw [show startR N_law_row [.int n] = [some (.int n), none] from rfl]
  have hm0 : 0 ≤ n % 4 := Int.emod_nonneg _ (by decide)
  have hm1 : n % 4 < 4 := Int.emod_lt_of_pos _ (by decide)
  let wd : D → D := fun d => match d with
    | .int k => .str (Classical.choose (g_word (mixN n k) (mix_nn n k)))
    | _ => .non
  let ws : List Str := (List.range (1 + n % 4).toNat).map fun i => Classical.choose (g_word (mixN n (0 + (i : Nat))) (mix_nn n _))
  have hws : ∀ w ∈ ws, Fine w ∧ 1 ≤ w.length ∧ w.length ≤ 4 := fun w hw => by
    obtain ⟨i, _, rfl⟩ := List.mem_map.mp hw
    exact (Classical.choose_spec (g_word (mixN n (0 + (i : Nat))) (mix_nn n _))).2
  have hlw : ws.length = (1 + n % 4).toNat := by simp [ws]
  have e : eLcF (iR1 (eBin addD (eC (.int 1)) (eBin modD (eVar 0) (eC (.int 4))))) [1] (gNm 1) bYes (eCall 1 G_law_word (aCons (eCall 2 G_law_mixed (aCons (eVar 0) (aCons (eVar 1) aNil))) aNil)) [some (.int n), none] [] = .ok (.lst (ws.map .str)) [] := by
    rw [eLcF_map (it := ⟨rangeL 0 (1 + n % 4).toNat, none⟩) (M := []) wd (by
      simp [iR1, eBin, addD, modD, eC, eVar]
      omega) trivial (by simp; omega) (fun d hd => by
      obtain ⟨i, hi, rfl⟩ := rangeL_mem hd
      refine ⟨_, rfl, ?_⟩
      have c1 : eCall 2 G_law_mixed (aCons (eVar 0) (aCons (eVar 1) aNil)) [some (.int n), some (.int (0 + (i : Nat)))] [] = .ok (.int (mixN n (0 + (i : Nat)))) [] := call_ok (l := [.int n, .int (0 + (i : Nat))]) rfl rfl (by simp) (g_mixed _ _) trivial
      exact call_ok (aone_ok c1) rfl (by simp) (Classical.choose_spec (g_word (mixN n (0 + (i : Nat))) (mix_nn n _))).1 trivial)]
    congr 2
    simp only [rangeL, List.map_map, ws]
    rfl
  clear_value ws
  have hs1 : (ws.map (·.length)).sum ≤ ws.length * 4 := sum_len ws fun w hw => (hws w hw).2.2
  have hne : ws ≠ [] := fun z => by
    rw [z] at hlw
    simp at hlw
    omega
  refine ⟨Txt.join " " ws, ?_, fun c hc => ?_, ?_, ?_⟩
  · unfold sRet
    rw [eMt_ok (a := .str " ") (l := [.lst (ws.map .str)]) (M1 := []) (M2 := []) rfl rfl (aone_ok e)]
    have : (ws.map (·.length)).sum + ws.length * (" " : Str).length ≤ 1000000 := by
      rw [show (" " : Str).length = 1 from by rw [len_tl, tl_sp]; rfl]
      omega
    simp [joinD, itemsD, this, fin_rt]
  · rw [join_tl, tl_sp] at hc
    rcases glueT_mem _ _ _ hc with h | ⟨w, hw, h⟩
    · rw [List.mem_singleton] at h
      subst h
      decide
    · exact (hws w hw).1 c h
  · cases ws with
    | nil => exact absurd rfl hne
    | cons w r =>
      rw [len_tl, join_tl]
      show 1 ≤ (tl w ++ _).length
      have := (hws w List.mem_cons_self).2.1
      rw [len_tl] at this
      rw [List.length_append]
      omega
  · rw [len_tl, join_tl, tl_sp]
    have := glueT_len [32] 4 ws fun w hw => (hws w hw).2.2
    simp at this
    omega

/-- without the empty ones -/
def nonE (l : List Str) : List Str := l.filter fun s => decide (s ≠ ("" : Str))
theorem nonE_app (l m : List Str) : nonE (l ++ m) = nonE l ++ nonE m := List.filter_append ..
theorem nonE_e : nonE [("" : Str)] = [] := by simp [nonE]
theorem nonE_one {x : Str} (h : x ≠ "") : nonE [x] = [x] := by simp [nonE, h]
/-! ### rows with empty ones among them -/
theorem g_filled (rows : List Str) (hr : ∀ r ∈ rows, Row r) (hl : rows.length ≤ 8) (c m : Int) :
    ∃ fs : List Str, G_law_filled [.lst (rows.map .str), .int c, .int m] = .ok (.lst (fs.map .str)) ∧ nonE fs = rows ∧ fs.length ≤ 16 ∧ ∀ f ∈ fs, f = "" ∨ Row f := by
  unfold G_law_filled B_law_filled
  rw [show startR N_law_filled [.lst (rows.map .str), .int c, .int m] = [some (.lst (rows.map .str)), some (.int c), some (.int m), none, none] from rfl]
  rw [seq_nx (ρ1 := [some (.lst (rows.map .str)), some (.int c), some (.int m), some (.ptr 0), none]) (M1 := [.lst []]) rfl]
  obtain ⟨ρ', M', e, fs, m', k, rfl, rfl, h1, h2, h3⟩ := sFor_nx (ρ := [some (.lst (rows.map .str)), some (.int c), some (.int m), some (.ptr 0), none]) (M := [.lst []]) (M0 := [.lst []]) (it := ⟨rangeL 0 rows.length, none⟩)
    (fi := iR1 (eCa lenD (aCons (eVar 0) aNil))) (g := gNm 4) (body := sSeq (sIf (bAnd (bOf (eBin eqD (eBin modD (eCall 2 G_law_mixed (aCons (eVar 1) (aCons (eVar 4) aNil))) (eC (.int 3))) (eC (.int 0)))) (bOf (eBin gtD (eVar 2) (eC (.int 0))))) (sSeq (sEx (eMt "list" appD (eVar 3) (aCons (eC (.str "")) aNil)))
    (sSet 2 (eBin subD (eVar 2) (eC (.int 1))))) sNext)
    (sEx (eMt "list" appD (eVar 3) (aCons (eBin ixD (eVar 0) (eVar 4)) aNil))))
    (fun j ρ M => ∃ (fs : List Str) (m' : Int) (k : Option D), ρ = [some (.lst (rows.map .str)), some (.int c), some (.int m'), some (.ptr 0), k] ∧ M = [.lst (fs.map .str)] ∧ nonE fs = rows.take j ∧ fs.length ≤ 2 * j ∧ ∀ f ∈ fs, f = "" ∨ Row f) (iR1_nat (by
      rw [len_var rfl, List.length_map]) (by omega)) (by
      rintro j d ρ M hd ⟨fs, m', k, rfl, rfl, h1, h2, h3⟩
      obtain ⟨hj, rfl⟩ := rangeL_get hd
      refine ⟨trivial, _, rfl, ?_⟩
      have hrj := hr _ (List.getElem_mem hj)
      have hne : rows[j] ≠ "" := fun z => by
        have := hrj.2.1
        rw [z] at this
        exact absurd this (by decide)
      -- behind the test
      have step : ∀ (gs : List Str) (q : Int), nonE gs = rows.take j → gs.length ≤ 2 * j + 1 → (∀ f ∈ gs, f = "" ∨ Row f) → ∃ ρ2 M2, sEx (eMt "list" appD (eVar 3) (aCons (eBin ixD (eVar 0) (eVar 4)) aNil)) [some (.lst (rows.map .str)), some (.int c), some (.int q), some (.ptr 0), some (.int (0 + (j : Nat)))] [.lst (gs.map .str)] = .ok (.nx ρ2) M2 ∧
          ∃ (fs : List Str) (m' : Int) (k : Option D), ρ2 = [some (.lst (rows.map .str)), some (.int c), some (.int m'), some (.ptr 0), k] ∧ M2 = [.lst (fs.map .str)] ∧ nonE fs = rows.take (j + 1) ∧ fs.length ≤ 2 * (j + 1) ∧ ∀ f ∈ fs, f = "" ∨ Row f := by
        intro gs q g1 g2 g3
        refine ⟨_, [.lst ((gs ++ [rows[j]]).map .str)], ex_ok (d := .non) ?_, gs ++ [rows[j]], q, _, rfl, rfl, ?_, ?_, ?_⟩
        · rw [eMt_ok (a := .ptr 0) (l := [.str rows[j]]) (M1 := [.lst (gs.map .str)]) (M2 := [.lst (gs.map .str)]) rfl rfl (aone_ok (by simp [eBin, eVar, ixD, itemsD, atI, ixN, hj])), app_ptr (l := gs.map .str) rfl (by rw [List.length_map]; omega)]
          simp
        · rw [nonE_app, g1, List.take_add_one, List.getElem?_eq_getElem hj, nonE_one hne]
          rfl
        · rw [List.length_append, List.length_singleton]
          omega
        · intro f hf
          rcases List.mem_append.mp hf with hf | hf
          · exact g3 f hf
          · rw [List.mem_singleton] at hf
            exact .inr (hf ▸ hrj)
      have c1 : eCall 2 G_law_mixed (aCons (eVar 1) (aCons (eVar 4) aNil)) [some (.lst (rows.map .str)), some (.int c), some (.int m'), some (.ptr 0), some (.int (0 + (j : Nat)))] [.lst (fs.map .str)] = .ok (.int (mixN c (0 + (j : Nat)))) [.lst (fs.map .str)] := call_ok (l := [.int c, .int (0 + (j : Nat))]) rfl rfl (by simp) (g_mixed _ _) trivial
      have t1 : bOf (eBin eqD (eBin modD (eCall 2 G_law_mixed (aCons (eVar 1) (aCons (eVar 4) aNil))) (eC (.int 3))) (eC (.int 0))) [some (.lst (rows.map .str)), some (.int c), some (.int m'), some (.ptr 0), some (.int (0 + (j : Nat)))] [.lst (fs.map .str)] = .ok (decide (mixN c (0 + (j : Nat)) % 3 = 0)) [.lst (fs.map .str)] := by
        refine bof_ok ?_
        rw [bin_ok (a := .int (mixN c (0 + (j : Nat)) % 3)) (b := .int 0) (M1 := [.lst (fs.map .str)]) (M2 := [.lst (fs.map .str)]) (by rw [bin_ok c1 rfl]; rfl) rfl]
        rfl
      show ∃ ρ2 M2, (sSeq _ _ [some (.lst (rows.map .str)), some (.int c), some (.int m'), some (.ptr 0), some (.int (0 + (j : Nat)))] [.lst (fs.map .str)] = .ok (.nx ρ2) M2 ∨ _) ∧ _
      by_cases hx : mixN c (0 + (j : Nat)) % 3 = 0 ∧ 0 < m'
      · have t2 : bAnd (bOf (eBin eqD (eBin modD (eCall 2 G_law_mixed (aCons (eVar 1) (aCons (eVar 4) aNil))) (eC (.int 3))) (eC (.int 0)))) (bOf (eBin gtD (eVar 2) (eC (.int 0)))) [some (.lst (rows.map .str)), some (.int c), some (.int m'), some (.ptr 0), some (.int (0 + (j : Nat)))] [.lst (fs.map .str)] = .ok true [.lst (fs.map .str)] := by
          rw [decide_eq_true hx.1] at t1
          refine band_t t1 (bof_ok ?_)
          show Fl.ok (D.bl (decide (0 < m'))) _ = _
          rw [decide_eq_true hx.2]
        rw [seq_nx (ρ1 := [some (.lst (rows.map .str)), some (.int c), some (.int (m' - 1)), some (.ptr 0), some (.int (0 + (j : Nat)))]) (M1 := [.lst ((fs ++ [("" : Str)]).map .str)]) (by
          rw [if_ok t2, if_pos rfl, seq_nx (ρ1 := [some (.lst (rows.map .str)), some (.int c), some (.int m'), some (.ptr 0), some (.int (0 + (j : Nat)))]) (M1 := [.lst ((fs ++ [("" : Str)]).map .str)]) (ex_ok (d := .non) (by
            rw [eMt_ok (a := .ptr 0) (l := [.str ""]) (M1 := [.lst (fs.map .str)]) (M2 := [.lst (fs.map .str)]) rfl rfl rfl, app_ptr (l := fs.map .str) rfl (by rw [List.length_map]; omega)]
            simp))]
          rfl)]
        obtain ⟨ρ2, M2, e2, hI⟩ := step (fs ++ [("" : Str)]) (m' - 1) (by rw [nonE_app, h1, nonE_e, List.append_nil]) (by rw [List.length_append, List.length_singleton]; omega) (fun f hf => by
          rcases List.mem_append.mp hf with hf | hf
          · exact h3 f hf
          · exact .inl (List.mem_singleton.mp hf))
        exact ⟨ρ2, M2, .inl e2, hI⟩
      · have t2 : bAnd (bOf (eBin eqD (eBin modD (eCall 2 G_law_mixed (aCons (eVar 1) (aCons (eVar 4) aNil))) (eC (.int 3))) (eC (.int 0)))) (bOf (eBin gtD (eVar 2) (eC (.int 0)))) [some (.lst (rows.map .str)), some (.int c), some (.int m'), some (.ptr 0), some (.int (0 + (j : Nat)))] [.lst (fs.map .str)] = .ok false [.lst (fs.map .str)] := by
          by_cases hx1 : mixN c (0 + (j : Nat)) % 3 = 0
          · rw [decide_eq_true hx1] at t1
            refine band_t t1 (bof_ok ?_)
            show Fl.ok (D.bl (decide (0 < m'))) _ = _
            rw [decide_eq_false (fun z => hx ⟨hx1, z⟩)]
          · rw [decide_eq_false hx1] at t1
            exact band_f t1
        rw [seq_nx (ρ1 := [some (.lst (rows.map .str)), some (.int c), some (.int m'), some (.ptr 0), some (.int (0 + (j : Nat)))]) (M1 := [.lst (fs.map .str)]) (by rw [if_ok t2, if_neg Bool.false_ne_true]; rfl)]
        obtain ⟨ρ2, M2, e2, hI⟩ := step fs m' h1 (by omega) h3
        exact ⟨ρ2, M2, .inl e2, hI⟩) (fun _ _ _ => trivial) ⟨[], m, none, rfl, rfl, rfl, by simp, by simp⟩
  rw [seq_nx e]
  refine ⟨fs, ?_, ?_, ?_, h3⟩
  · rw [ret_ok (d := .ptr 0) (M1 := [.lst (fs.map .str)]) rfl, fin_ptr (l := fs.map .str) rfl (by simp)]
  · rw [h1]
    simp
  · simp at h2
    omega
theorem g_rows (x : Str) (hx : x.length ≤ 1000) : G_law_rows [.str x] = .ok (.lst ((nonE (Txt.split x "\n")).map .str)) := by
  unfold G_law_rows B_law_rows
  rw [show startR N_law_rows [.str x] = [some (.str x), none] from rfl]
  have hs : (Txt.split x "\n").length ≤ x.length + 1 := split_len tl_nl (by decide)
  have hn : (("\n" : Str).length == 0) = false := by decide
  rw [ret_ok (eLcF_fm (it := ⟨(Txt.split x "\n").map .str, none⟩) (M := []) (fun d => match d with
    | .str y => if y ≠ "" then some (.str y) else none
    | _ => none) (by
      unfold iL
      rw [eMt_ok (a := .str x) (l := [.str "\n"]) (M1 := []) (M2 := []) rfl rfl rfl]
      unfold splitD
      dsimp only
      rw [if_pos ⟨hn, by omega⟩]
      rfl) trivial (by rw [List.length_map]; omega) fun d hd => by
      obtain ⟨y, _, rfl⟩ := List.mem_map.mp hd
      refine ⟨_, rfl, ?_⟩
      by_cases hy : y = ""
      · refine .inr ⟨by simp [hy], bof_ok ?_⟩
        rw [hy]
        show Fl.ok (D.bl (!decide (("" : Str) = ""))) _ = _
        simp
      · refine .inl ⟨.str y, by simp [hy], bof_ok ?_, rfl⟩
        show Fl.ok (D.bl (!decide (y = ""))) _ = _
        simp [hy])]
  have e : ∀ l : List Str, (l.map D.str).filterMap (fun d => match d with
    | .str y => if y ≠ "" then some (D.str y) else none
    | _ => none) = (nonE l).map .str := by
    intro l
    induction l with
    | nil => rfl
    | cons y l ih =>
      rw [List.map_cons, List.filterMap_cons, ih, show y :: l = [y] ++ l from rfl, nonE_app]
      by_cases hy : y = ""
      · simp [hy, nonE_e]
      · simp [hy, nonE_one hy]
  rw [e]
  exact fin_rt (by simp)

/-! ### common_lengths: some table comes back -/
def tabM (n : Nat) (L : List (List Int)) : Mem := L.map (fun r => MO.lst (r.map .int)) ++ [.lst ((List.range (n + 1)).map .ptr)]
def TabOk (n m : Nat) (L : List (List Int)) : Prop := L.length = n + 1 ∧ ∀ r ∈ L, r.length = m + 1
theorem tab_row {n m i : Nat} {L : List (List Int)} (h : TabOk n m L) (hi : i < n + 1) : ∃ r, L[i]? = some r ∧ r.length = m + 1 ∧ (tabM n L)[i]? = some (.lst (r.map .int)) := by
  have hl : i < L.length := by rw [h.1]; exact hi
  refine ⟨L[i], List.getElem?_eq_getElem hl, h.2 _ (List.getElem_mem hl), ?_⟩
  unfold tabM
  rw [List.getElem?_append_left (by rwa [List.length_map]), List.getElem?_map, List.getElem?_eq_getElem hl]
  rfl
theorem tab_last {n m : Nat} {L : List (List Int)} (h : TabOk n m L) : (tabM n L)[n + 1]? = some (.lst ((List.range (n + 1)).map .ptr)) := by
  unfold tabM
  rw [List.getElem?_append_right (by rw [List.length_map, h.1]; exact Nat.le_refl _), List.length_map, h.1, Nat.sub_self]
  rfl
/-- found[i] -/
theorem tab_ptr {n m i : Nat} {L : List (List Int)} (h : TabOk n m L) (hi : i < n + 1) : ixD (.ptr (n + 1)) (.int (i : Nat)) (tabM n L) = .ok (.ptr i) (tabM n L) :=
  ix_ptr (tab_last h) (by rw [List.getElem?_map, List.getElem?_range hi]; rfl)
theorem tab_cell {n m i j : Nat} {L : List (List Int)} (h : TabOk n m L) (hi : i < n + 1) (hj : j < m + 1) : ∃ z : Int, ixD (.ptr i) (.int (j : Nat)) (tabM n L) = .ok (.int z) (tabM n L) := by
  obtain ⟨r, e1, e2, e3⟩ := tab_row h hi
  have hjr : j < r.length := by omega
  exact ⟨r[j], ix_ptr e3 (by rw [List.getElem?_map, List.getElem?_eq_getElem hjr]; rfl)⟩
theorem tab_set {n m i j : Nat} {L : List (List Int)} (h : TabOk n m L) (hi : i < n + 1) (hj : j < m + 1) {fo fi fe : EF} {ρ : Ro} {z : Int} (h1 : fe ρ (tabM n L) = .ok (.int z) (tabM n L)) (h2 : fo ρ (tabM n L) = .ok (.ptr i) (tabM n L)) (h3 : fi ρ (tabM n L) = .ok (.int (j : Nat)) (tabM n L)) :
    ∃ L', TabOk n m L' ∧ sSetIx fo fi fe ρ (tabM n L) = .ok (.nx ρ) (tabM n L') := by
  obtain ⟨r, e1, e2, e3⟩ := tab_row h hi
  have hjr : j < r.length := by omega
  have hil : i < L.length := (List.getElem?_eq_some_iff.mp e1).1
  refine ⟨L.set i (r.set j z), ⟨by rw [List.length_set]; exact h.1, fun r' hr' => ?_⟩, ?_⟩
  · rcases List.mem_or_eq_of_mem_set hr' with q | q
    · exact h.2 r' q
    · rw [q, List.length_set]; exact e2
  · unfold sSetIx
    rw [h1, Fl.bind_ok, h2, Fl.bind_ok, h3, Fl.bind_ok]
    dsimp only
    rw [e3]
    dsimp only
    have hx : ixN (r.map D.int).length (j : Int) = some j := by
      unfold ixN
      rw [List.length_map, if_pos (by omega), if_pos (by omega), Int.toNat_natCast]
    rw [hx]
    dsimp only
    congr 1
    unfold tabM
    rw [List.set_append_left _ _ (by rw [List.length_map]; exact hil), ← List.map_set]
    congr 1
    rw [← List.map_set]
def pairs (ls : List Str) (m : Int) : List D := ls.map fun x => .tup [.str x, .int m]
theorem bnd_pairs {n : Nat} (ls : List Str) (m : Int) : bndL n (pairs ls m) := bndL_iff.mpr fun d hd => by
  obtain ⟨x, _, rfl⟩ := List.mem_map.mp hd
  exact ⟨trivial, trivial, trivial⟩
theorem rev_get {n i : Nat} {d : D} (e : (rangeL 0 n).reverse[i]? = some d) : ∃ k : Nat, k < n ∧ d = .int (k : Nat) := by
  obtain ⟨h1, h2⟩ := range_rev_get e
  exact ⟨n - 1 - i, by omega, by rw [h2]; congr 1; omega⟩
theorem iRev_ok {fa : EF} {ρ : Ro} {n : Nat} {M M1 : Mem} (h : fa ρ M = .ok (.int (n : Nat)) M1) (h1 : n < 1000000) : iRev1 fa ρ M = .ok ⟨(rangeL 0 n).reverse, none⟩ M1 := by
  unfold iRev1
  rw [h, Fl.bind_ok]
  dsimp only
  rw [if_pos (by omega), Int.toNat_natCast]
theorem g_common (rs : List Str) (m0 : Int) (ls : List Str) (hr : rs.length ≤ 8) (hl : ls.length ≤ 8) : ∃ t, G_common_lengths [.lst (pairs rs m0), .lst (ls.map .str)] = .ok (.lst t) ∧ bndL 0 t := by
  unfold G_common_lengths B_common_lengths
  rw [show startR N_common_lengths [.lst (pairs rs m0), .lst (ls.map .str)] = [some (.lst (pairs rs m0)), some (.lst (ls.map .str)), none, none, none] from rfl]
  have hpl : (pairs rs m0).length = rs.length := by simp [pairs]
  have hll : (ls.map D.str).length = ls.length := by simp
  -- found = [[0 ..] ..]
  have inner : ∀ (i : Option D) (M : Mem), eLcP (iR1 (eBin addD (eCa lenD (aCons (eVar 1) aNil)) (eC (.int 1)))) [4] (gNm 4) bYes (eC (.int 0)) [some (.lst (pairs rs m0)), some (.lst (ls.map .str)), none, i, none] M = .ok (.ptr M.length) (M ++ [.lst ((List.replicate (ls.length + 1) (0 : Int)).map .int)]) := by
    intro i M
    refine Eq.trans (eLcP_map (it := ⟨rangeL 0 (ls.length + 1), none⟩) (M := M) (fun _ => .int 0) (iR1_nat (n := ls.length + 1) (M1 := M) ?_ (by omega)) trivial (by rw [rangeL_length]; omega) fun d hd => ⟨_, rfl, rfl⟩) ?_
    · rw [bin_ok (len_var rfl) rfl, hll]
      rfl
    · congr 4
      rw [List.map_replicate]
      exact List.eq_replicate_iff.mpr ⟨by rw [List.length_map, rangeL_length], fun b hb => by
        obtain ⟨_, _, rfl⟩ := List.mem_map.mp hb
        rfl⟩
  have outer : eLcP (iR1 (eBin addD (eCa lenD (aCons (eVar 0) aNil)) (eC (.int 1)))) [3] (gNm 3) bYes (eLcP (iR1 (eBin addD (eCa lenD (aCons (eVar 1) aNil)) (eC (.int 1)))) [4] (gNm 4) bYes (eC (.int 0))) [some (.lst (pairs rs m0)), some (.lst (ls.map .str)), none, none, none] [] =
      .ok (.ptr (rs.length + 1)) (tabM rs.length (List.replicate (rs.length + 1) (List.replicate (ls.length + 1) 0))) := by
    refine Eq.trans (eLcP_step (it := ⟨rangeL 0 (rs.length + 1), none⟩) (M := []) (iR1_nat (n := rs.length + 1) (M1 := []) ?_ (by omega)) (by rw [rangeL_length]; omega)
      (lcF_alloc (.lst ((List.replicate (ls.length + 1) (0 : Int)).map .int)) (rangeL 0 (rs.length + 1)) [] fun d hd => ⟨_, rfl, fun M => inner _ M⟩)) ?_
    · rw [bin_ok (len_var rfl) rfl, hpl]
      rfl
    · unfold tabM
      simp
  rw [seq_nx (ρ1 := [some (.lst (pairs rs m0)), some (.lst (ls.map .str)), some (.ptr (rs.length + 1)), none, none]) (set_ok outer)]
  -- the loops
  obtain ⟨ρ', M', e, L, a, b, rfl, rfl, hL⟩ := sFor_nx (ρ := [some (.lst (pairs rs m0)), some (.lst (ls.map .str)), some (.ptr (rs.length + 1)), none, none]) (M0 := tabM rs.length (List.replicate (rs.length + 1) (List.replicate (ls.length + 1) 0)))
    (M := tabM rs.length (List.replicate (rs.length + 1) (List.replicate (ls.length + 1) 0))) (it := ⟨(rangeL 0 rs.length).reverse, none⟩)
    (fi := iRev1 (eCa lenD (aCons (eVar 0) aNil))) (g := gNm 3) (body := sFor (iRev1 (eCa lenD (aCons (eVar 1) aNil))) (gNm 4) (sIf (bOf (eBin eqD (eBin ixD (eBin ixD (eVar 0) (eVar 3)) (eC (.int 0))) (eBin ixD (eVar 1) (eVar 4)))) (sSetIx (eBin ixD (eVar 2) (eVar 3)) (eVar 4) (eBin addD (eBin ixD (eBin ixD (eVar 2) (eBin addD (eVar 3) (eC (.int 1)))) (eBin addD (eVar 4) (eC (.int 1)))) (eC (.int 1)))) (sSetIx (eBin ixD (eVar 2) (eVar 3)) (eVar 4) (eCa maxD (aCons (eBin ixD (eBin ixD (eVar 2) (eBin addD (eVar 3) (eC (.int 1)))) (eVar 4)) (aCons (eBin ixD (eBin ixD (eVar 2) (eVar 3)) (eBin addD (eVar 4) (eC (.int 1)))) aNil))))))
    (fun _ ρ M => ∃ (L : List (List Int)) (a b : Option D), ρ = [some (.lst (pairs rs m0)), some (.lst (ls.map .str)), some (.ptr (rs.length + 1)), a, b] ∧ M = tabM rs.length L ∧ TabOk rs.length ls.length L) (iRev_ok (by rw [len_var rfl, hpl]) (by omega)) (by
      rintro _ d ρ M hd ⟨L, a, b, rfl, rfl, hL⟩
      obtain ⟨i, hi, rfl⟩ := rev_get hd
      refine ⟨trivial, _, rfl, ?_⟩
      obtain ⟨ρ', M', e, hI⟩ := sFor_nx (ρ := [some (.lst (pairs rs m0)), some (.lst (ls.map .str)), some (.ptr (rs.length + 1)), some (.int (i : Nat)), b]) (M0 := tabM rs.length L) (M := tabM rs.length L) (it := ⟨(rangeL 0 ls.length).reverse, none⟩)
        (fi := iRev1 (eCa lenD (aCons (eVar 1) aNil))) (g := gNm 4) (body := sIf (bOf (eBin eqD (eBin ixD (eBin ixD (eVar 0) (eVar 3)) (eC (.int 0))) (eBin ixD (eVar 1) (eVar 4)))) (sSetIx (eBin ixD (eVar 2) (eVar 3)) (eVar 4) (eBin addD (eBin ixD (eBin ixD (eVar 2) (eBin addD (eVar 3) (eC (.int 1)))) (eBin addD (eVar 4) (eC (.int 1)))) (eC (.int 1)))) (sSetIx (eBin ixD (eVar 2) (eVar 3)) (eVar 4) (eCa maxD (aCons (eBin ixD (eBin ixD (eVar 2) (eBin addD (eVar 3) (eC (.int 1)))) (eVar 4)) (aCons (eBin ixD (eBin ixD (eVar 2) (eVar 3)) (eBin addD (eVar 4) (eC (.int 1)))) aNil)))))
        (fun _ ρ M => ∃ (L : List (List Int)) (b : Option D), ρ = [some (.lst (pairs rs m0)), some (.lst (ls.map .str)), some (.ptr (rs.length + 1)), some (.int (i : Nat)), b] ∧ M = tabM rs.length L ∧ TabOk rs.length ls.length L) (iRev_ok (by rw [len_var rfl, hll]) (by omega)) (by
          rintro _ d ρ M hd ⟨L, b, rfl, rfl, hL⟩
          obtain ⟨j, hj, rfl⟩ := rev_get hd
          refine ⟨trivial, _, rfl, ?_⟩
          show ∃ ρ2 M2, (sIf _ _ _ [some (.lst (pairs rs m0)), some (.lst (ls.map .str)), some (.ptr (rs.length + 1)), some (.int (i : Nat)), some (.int (j : Nat))] (tabM rs.length L) = .ok (.nx ρ2) M2 ∨ _) ∧ _
          have f1 : eBin ixD (eVar 2) (eVar 3) [some (.lst (pairs rs m0)), some (.lst (ls.map .str)), some (.ptr (rs.length + 1)), some (.int (i : Nat)), some (.int (j : Nat))] (tabM rs.length L) = .ok (.ptr i) (tabM rs.length L) := (bin_ok rfl rfl).trans (tab_ptr hL (by omega))
          have f2 : eBin ixD (eVar 2) (eBin addD (eVar 3) (eC (.int 1))) [some (.lst (pairs rs m0)), some (.lst (ls.map .str)), some (.ptr (rs.length + 1)), some (.int (i : Nat)), some (.int (j : Nat))] (tabM rs.length L) = .ok (.ptr (i + 1)) (tabM rs.length L) := (bin_ok (b := .int ((i + 1 : Nat) : Int)) rfl rfl).trans (tab_ptr hL (by omega))
          obtain ⟨z1, c1⟩ := tab_cell (i := i + 1) (j := j + 1) hL (by omega) (by omega)
          obtain ⟨z2, c2⟩ := tab_cell (i := i + 1) (j := j) hL (by omega) (by omega)
          obtain ⟨z3, c3⟩ := tab_cell (i := i) (j := j + 1) hL (by omega) (by omega)
          have t : ∃ k : Bool, bOf (eBin eqD (eBin ixD (eBin ixD (eVar 0) (eVar 3)) (eC (.int 0))) (eBin ixD (eVar 1) (eVar 4))) [some (.lst (pairs rs m0)), some (.lst (ls.map .str)), some (.ptr (rs.length + 1)), some (.int (i : Nat)), some (.int (j : Nat))] (tabM rs.length L) = .ok k (tabM rs.length L) := by
            refine ⟨decide (rs[i] = ls[j]), bof_ok ?_⟩
            rw [bin_ok (a := .str rs[i]) (b := .str ls[j]) (M1 := tabM rs.length L) (M2 := tabM rs.length L) (by
              rw [bin_ok (a := .tup [.str rs[i], .int m0]) (b := .int 0) (M1 := tabM rs.length L) (M2 := tabM rs.length L) ((bin_ok rfl rfl).trans (ix_lst (by simp [pairs, hi]))) rfl]
              exact ix_tup (k := 0) rfl) ((bin_ok rfl rfl).trans (ix_lst (by simp [hj])))]
            rfl
          obtain ⟨k, t⟩ := t
          cases k with
          | true =>
            rw [if_ok t, if_pos rfl]
            obtain ⟨L', h', e'⟩ := tab_set (fo := eBin ixD (eVar 2) (eVar 3)) (fi := eVar 4) (fe := eBin addD (eBin ixD (eBin ixD (eVar 2) (eBin addD (eVar 3) (eC (.int 1)))) (eBin addD (eVar 4) (eC (.int 1)))) (eC (.int 1))) (ρ := [some (.lst (pairs rs m0)), some (.lst (ls.map .str)), some (.ptr (rs.length + 1)), some (.int (i : Nat)), some (.int (j : Nat))]) (i := i) (j := j) (z := z1 + 1) hL (by omega) (by omega)
              ((bin_ok (a := .int z1) (b := .int 1) ((bin_ok (b := .int ((j + 1 : Nat) : Int)) f2 rfl).trans c1) rfl).trans rfl) f1 rfl
            exact ⟨_, _, .inl e', L', _, rfl, rfl, h'⟩
          | false =>
            rw [if_ok t, if_neg Bool.false_ne_true]
            obtain ⟨L', h', e'⟩ := tab_set (fo := eBin ixD (eVar 2) (eVar 3)) (fi := eVar 4) (fe := eCa maxD (aCons (eBin ixD (eBin ixD (eVar 2) (eBin addD (eVar 3) (eC (.int 1)))) (eVar 4)) (aCons (eBin ixD (eBin ixD (eVar 2) (eVar 3)) (eBin addD (eVar 4) (eC (.int 1)))) aNil))) (ρ := [some (.lst (pairs rs m0)), some (.lst (ls.map .str)), some (.ptr (rs.length + 1)), some (.int (i : Nat)), some (.int (j : Nat))]) (i := i) (j := j) (z := if z3 > z2 then z3 else z2) hL (by omega) (by omega)
              ((ca_ok (acons_ok ((bin_ok f2 rfl).trans c2) (aone_ok ((bin_ok (b := .int ((j + 1 : Nat) : Int)) f1 rfl).trans c3)))).trans rfl) f1 rfl
            exact ⟨_, _, .inl e', L', _, rfl, rfl, h'⟩) (fun _ _ _ => trivial) ⟨L, b, rfl, rfl, hL⟩
      obtain ⟨L', b', h1, h2, h3⟩ := hI
      exact ⟨ρ', M', .inl e, L', _, b', h1, h2, h3⟩) (fun _ _ _ => trivial) ⟨_, none, none, rfl, rfl, by simp, fun r hr => by rw [List.eq_of_mem_replicate hr, List.length_replicate]⟩
  rw [seq_nx e, ret_ok (d := .ptr (rs.length + 1)) (M1 := tabM rs.length L) rfl]
  have hfz : frz (tabM rs.length L) 12 (.ptr (rs.length + 1)) = some (.lst (((List.range (rs.length + 1)).map D.ptr).map fun d => match d with
      | .ptr i => .lst ((L.getD i []).map .int)
      | d => d)) := by
    unfold frz
    rw [if_neg (show ¬ bnd 0 (.ptr (rs.length + 1)) from Nat.not_lt_zero _)]
    dsimp only
    rw [tab_last hL]
    dsimp only
    rw [frzL_map (h := fun d => match d with
      | .ptr i => .lst ((L.getD i []).map .int)
      | d => d) _ fun d hd => ?_]
    · rfl
    · obtain ⟨i, hi, rfl⟩ := List.mem_map.mp hd
      rw [List.mem_range] at hi
      obtain ⟨r, e1, _, e3⟩ := tab_row hL hi
      rw [frz_ptr e3 (by simp)]
      dsimp only
      rw [List.getD_eq_getElem?_getD, e1]
      rfl
  have hfin : fin (.ok (.rt (.ptr (rs.length + 1))) (tabM rs.length L)) = Pr.ok (.lst (((List.range (rs.length + 1)).map D.ptr).map fun d => match d with
      | .ptr i => .lst ((L.getD i []).map .int)
      | d => d)) := by
    unfold fin
    dsimp only
    rw [hfz]
  refine ⟨_, hfin, bndL_iff.mpr fun d hd => ?_⟩
  obtain ⟨d', hd', rfl⟩ := List.mem_map.mp hd
  obtain ⟨i, hi, rfl⟩ := List.mem_map.mp hd'
  show bndL 0 _
  simp

/-! ### laid_among -/
theorem len_ptr {i k : Nat} {ρ : Ro} {l : List D} {M : Mem} (h : ρ[i]? = some (some (.ptr k))) (e : M[k]? = some (.lst l)) : eCa lenD (aCons (eVar i) aNil) ρ M = .ok (.int l.length) M := by
  refine (ca_ok (aone_ok (var_ok h))).trans ?_
  unfold lenD
  dsimp only [itemsD]
  rw [e]
theorem pairs_app (l : List Str) (x : Str) (m : Int) : pairs (l ++ [x]) m = pairs l m ++ [.tup [.str x, .int m]] := by simp [pairs]
def wLaid : SF := sWhile 100000 (bOr (bOf (eBin ltD (eVar 5) (eCa lenD (aCons (eVar 0) aNil)))) (bOf (eBin ltD (eVar 6) (eCa lenD (aCons (eVar 1) aNil))))) sNext
/-- the lines alone, or laid on themselves -/
theorem g_laid (ls : List Str) (hl : ls.length ≤ 8) (fresh : Bool) (m0 m : Int) :
    G_laid_among [.lst (if fresh then [] else pairs ls m0), .lst (ls.map .str), .int m] = .ok (.lst (pairs ls (if fresh then m else Builtin.bitOr m0 m))) := by
  unfold G_laid_among B_laid_among
  generalize hrows : (if fresh = true then [] else pairs ls m0) = rows
  have hrb : bndL 0 rows := by
    rw [← hrows]
    split
    · trivial
    · exact bnd_pairs _ _
  rw [show startR N_laid_among [.lst rows, .lst (ls.map .str), .int m] = [some (.lst rows), some (.lst (ls.map .str)), some (.int m), none, none, none, none] from rfl]
  obtain ⟨t, ht, hb⟩ : ∃ t, G_common_lengths [.lst rows, .lst (ls.map .str)] = .ok (.lst t) ∧ bndL 0 t := by
    rw [← hrows]
    cases fresh with
    | true => exact g_common [] 0 ls (by simp) hl
    | false => exact g_common ls m0 ls hl hl
  rw [seq_nx (ρ1 := [some (.lst rows), some (.lst (ls.map .str)), some (.int m), some (.lst t), none, none, none]) (M1 := []) (set_ok (i := 3) (call_ok (m := 2) (fa := aCons (eVar 0) (aCons (eVar 1) aNil)) (l := [.lst rows, .lst (ls.map .str)]) rfl rfl (by simp [hrb]) ht (by simpa using hb)))]
  rw [seq_nx (ρ1 := [some (.lst rows), some (.lst (ls.map .str)), some (.int m), some (.lst t), some (.ptr 0), none, none]) (M1 := [.lst []]) rfl]
  rw [seq_nx (ρ1 := [some (.lst rows), some (.lst (ls.map .str)), some (.int m), some (.lst t), some (.ptr 0), some (.int 0), none]) (M1 := [.lst []]) rfl]
  rw [seq_nx (ρ1 := [some (.lst rows), some (.lst (ls.map .str)), some (.int m), some (.lst t), some (.ptr 0), some (.int 0), some (.int 0)]) (M1 := [.lst []]) rfl]
  generalize hm' : (if fresh = true then m else Builtin.bitOr m0 m) = m'
  have hll : (ls.map D.str).length = ls.length := by simp
  obtain ⟨ρ', M', e, ⟨j, hj, rfl, rfl⟩, hc⟩ := sWhile_nx (N := 100000) (c := bOr (bOf (eBin ltD (eVar 5) (eCa lenD (aCons (eVar 0) aNil)))) (bOf (eBin ltD (eVar 6) (eCa lenD (aCons (eVar 1) aNil)))))
    (f := sIf (bAnd (bOf (eBin ltD (eVar 5) (eCa lenD (aCons (eVar 0) aNil)))) (bAnd (bOf (eBin ltD (eVar 6) (eCa lenD (aCons (eVar 1) aNil)))) (bOf (eBin eqD (eBin ixD (eBin ixD (eVar 0) (eVar 5)) (eC (.int 0))) (eBin ixD (eVar 1) (eVar 6)))))) (sSeq (sEx (eMt "list" appD (eVar 4) (aCons (eCa tupD (aCons (eBin ixD (eVar 1) (eVar 6)) (aCons (eBin orD (eBin ixD (eBin ixD (eVar 0) (eVar 5)) (eC (.int 1))) (eVar 2)) aNil))) aNil)))
    (sSeq (sAug 5 iaddD (eC (.int 1)))
    (sAug 6 iaddD (eC (.int 1))))) (sIf (bOr (bOf (eBin eqD (eVar 6) (eCa lenD (aCons (eVar 1) aNil)))) (bAnd (bOf (eBin ltD (eVar 5) (eCa lenD (aCons (eVar 0) aNil)))) (bOf (eBin geD (eBin ixD (eBin ixD (eVar 3) (eBin addD (eVar 5) (eC (.int 1)))) (eVar 6)) (eBin ixD (eBin ixD (eVar 3) (eVar 5)) (eBin addD (eVar 6) (eC (.int 1)))))))) (sSeq (sEx (eMt "list" appD (eVar 4) (aCons (eBin ixD (eVar 0) (eVar 5)) aNil)))
    (sAug 5 iaddD (eC (.int 1)))) (sSeq (sEx (eMt "list" appD (eVar 4) (aCons (eCa tupD (aCons (eBin ixD (eVar 1) (eVar 6)) (aCons (eVar 2) aNil))) aNil)))
    (sAug 6 iaddD (eC (.int 1))))))
    (ρ := [some (.lst rows), some (.lst (ls.map .str)), some (.int m), some (.lst t), some (.ptr 0), some (.int 0), some (.int 0)]) (M := [.lst []])
    (fun ρ M => ∃ j : Nat, j ≤ ls.length ∧ ρ = [some (.lst rows), some (.lst (ls.map .str)), some (.int m), some (.lst t), some (.ptr 0), some (.int (if fresh then 0 else (j : Nat))), some (.int (j : Nat))] ∧ M = [.lst (pairs (ls.take j) m')])
    (fun ρ M => match (ρ[6]? : Option (Option D)) with
      | some (some (D.int j)) => ls.length - j.toNat
      | _ => 0) (by
      rintro ρ M ⟨j, hj, rfl, rfl⟩
      have t2 : bOf (eBin ltD (eVar 6) (eCa lenD (aCons (eVar 1) aNil))) [some (.lst rows), some (.lst (ls.map .str)), some (.int m), some (.lst t), some (.ptr 0), some (.int (if fresh then 0 else (j : Nat))), some (.int (j : Nat))] [.lst (pairs (ls.take j) m')] = .ok (decide (j < ls.length)) [.lst (pairs (ls.take j) m')] :=
        blt_ok (i := (j : Nat)) rfl (len_var rfl) (decide_eq_decide.mpr (by rw [hll]; omega))
      have t1 : bOf (eBin ltD (eVar 5) (eCa lenD (aCons (eVar 0) aNil))) [some (.lst rows), some (.lst (ls.map .str)), some (.int m), some (.lst t), some (.ptr 0), some (.int (if fresh then 0 else (j : Nat))), some (.int (j : Nat))] [.lst (pairs (ls.take j) m')] = .ok (!fresh && decide (j < ls.length)) [.lst (pairs (ls.take j) m')] := by
        refine blt_ok (i := if fresh then 0 else (j : Nat)) rfl (len_var rfl) ?_
        rw [← hrows]
        cases fresh with
        | true => rfl
        | false =>
          rw [if_neg Bool.false_ne_true, if_neg Bool.false_ne_true, show (pairs ls m0).length = ls.length by simp [pairs], Bool.not_false, Bool.true_and]
          exact decide_eq_decide.mpr (by omega)
      by_cases hlt : j < ls.length
      · rw [decide_eq_true hlt] at t1 t2
        rw [Bool.and_true] at t1
        refine ⟨true, ?_, fun _ => ?_⟩
        · cases fresh with
          | true => exact bor_f t1 t2
          | false => exact bor_t t1
        · have hlj : eBin ixD (eVar 1) (eVar 6) [some (.lst rows), some (.lst (ls.map .str)), some (.int m), some (.lst t), some (.ptr 0), some (.int (if fresh then 0 else (j : Nat))), some (.int (j : Nat))] [.lst (pairs (ls.take j) m')] = .ok (.str ls[j]) [.lst (pairs (ls.take j) m')] := (bin_ok rfl rfl).trans (ix_lst (by simp [hlt]))
          have hlen : (pairs (ls.take j) m').length < 1000000 := by
            rw [pairs, List.length_map, List.length_take]
            omega
          have hnext : pairs (ls.take j) m' ++ [.tup [.str ls[j], .int m']] = pairs (ls.take (j + 1)) m' := by
            rw [List.take_add_one, List.getElem?_eq_getElem hlt, ← pairs_app]
            rfl
          cases fresh with
          | true =>
            rw [if_ok (band_f t1), if_neg Bool.false_ne_true]
            have te : bOf (eBin eqD (eVar 6) (eCa lenD (aCons (eVar 1) aNil))) [some (.lst rows), some (.lst (ls.map .str)), some (.int m), some (.lst t), some (.ptr 0), some (.int 0), some (.int (j : Nat))] [.lst (pairs (ls.take j) m')] = .ok false [.lst (pairs (ls.take j) m')] := by
              refine beqI_ok (i := (j : Nat)) rfl (len_var rfl) ?_
              rw [hll, decide_eq_false (by omega)]
            have hmm : m' = m := by rw [← hm']; rfl
            refine ⟨_, [.lst (pairs (ls.take (j + 1)) m')], .inl ?_, ⟨j + 1, hlt, rfl, rfl⟩, ?_⟩
            · change sIf _ _ _ [some (.lst rows), some (.lst (ls.map .str)), some (.int m), some (.lst t), some (.ptr 0), some (.int 0), some (.int (j : Nat))] _ = _
              rw [if_ok (bor_f te (band_f t1)), if_neg Bool.false_ne_true]
              rw [seq_nx (ex_ok (d := .non) (M1 := [.lst (pairs (ls.take (j + 1)) m')]) (by
                refine (eMt_ok (a := .ptr 0) (l := [.tup [.str ls[j], .int m]]) (M1 := [.lst (pairs (ls.take j) m')]) (M2 := [.lst (pairs (ls.take j) m')]) rfl rfl (aone_ok ((ca_ok (acons_ok hlj rfl)).trans rfl))).trans ?_
                rw [app_ptr rfl hlen, ← hmm, hnext]
                rfl))]
              rfl
            · show ls.length - (((j + 1 : Nat) : Int)).toNat < ls.length - ((j : Nat) : Int).toNat
              omega
          | false =>
            have hrw : rows = pairs ls m0 := by rw [← hrows]; rfl
            have hrj : rows[j]? = some (.tup [.str ls[j], .int m0]) := by rw [hrw]; simp [pairs, hlt]
            have hri : eBin ixD (eVar 0) (eVar 5) [some (.lst rows), some (.lst (ls.map .str)), some (.int m), some (.lst t), some (.ptr 0), some (.int (j : Nat)), some (.int (j : Nat))] [.lst (pairs (ls.take j) m')] = .ok (.tup [.str ls[j], .int m0]) [.lst (pairs (ls.take j) m')] := (bin_ok rfl rfl).trans (ix_lst hrj)
            have te : bOf (eBin eqD (eBin ixD (eBin ixD (eVar 0) (eVar 5)) (eC (.int 0))) (eBin ixD (eVar 1) (eVar 6))) [some (.lst rows), some (.lst (ls.map .str)), some (.int m), some (.lst t), some (.ptr 0), some (.int (j : Nat)), some (.int (j : Nat))] [.lst (pairs (ls.take j) m')] = .ok true [.lst (pairs (ls.take j) m')] := by
              exact beqS_ok ((bin_ok hri rfl).trans (ix_tup (k := 0) rfl)) hlj (decide_eq_true rfl)
            have hmm : m' = Builtin.bitOr m0 m := by rw [← hm']; rfl
            refine ⟨_, [.lst (pairs (ls.take (j + 1)) m')], .inl ?_, ⟨j + 1, hlt, rfl, rfl⟩, ?_⟩
            · rw [if_ok (band_t t1 (band_t t2 te)), if_pos rfl]
              rw [seq_nx (ex_ok (d := .non) (M1 := [.lst (pairs (ls.take (j + 1)) m')]) (by
                rw [eMt_ok (a := .ptr 0) (l := [.tup [.str ls[j], .int (Builtin.bitOr m0 m)]]) (M1 := [.lst (pairs (ls.take j) m')]) (M2 := [.lst (pairs (ls.take j) m')]) rfl rfl (aone_ok ((ca_ok (acons_ok hlj (aone_ok ((bin_ok ((bin_ok hri rfl).trans (ix_tup (k := 1) rfl)) rfl).trans rfl)))).trans rfl)), app_ptr rfl hlen, ← hmm, hnext]
                rfl))]
              rfl
            · show ls.length - (((j + 1 : Nat) : Int)).toNat < ls.length - ((j : Nat) : Int).toNat
              omega
      · rw [decide_eq_false hlt] at t1 t2
        rw [Bool.and_false] at t1
        exact ⟨false, bor_f t1 t2, fun z => by cases z⟩) ⟨0, Nat.zero_le _, by cases fresh <;> rfl, by simp [pairs]⟩ (by
      show ls.length - (0 : Int).toNat < 100000
      omega)
  rw [seq_nx e]
  have hje : j = ls.length := by
    by_cases hlt : j < ls.length
    · exfalso
      have t2 : bOf (eBin ltD (eVar 6) (eCa lenD (aCons (eVar 1) aNil))) [some (.lst rows), some (.lst (ls.map .str)), some (.int m), some (.lst t), some (.ptr 0), some (.int (if fresh then 0 else (j : Nat))), some (.int (j : Nat))] [.lst (pairs (ls.take j) m')] = .ok true [.lst (pairs (ls.take j) m')] := by
        exact blt_ok (i := (j : Nat)) rfl (len_var rfl) (decide_eq_true (by rw [hll]; omega))
      have key : ∀ b, bOf (eBin ltD (eVar 5) (eCa lenD (aCons (eVar 0) aNil))) [some (.lst rows), some (.lst (ls.map .str)), some (.int m), some (.lst t), some (.ptr 0), some (.int (if fresh then 0 else (j : Nat))), some (.int (j : Nat))] [.lst (pairs (ls.take j) m')] = .ok b [.lst (pairs (ls.take j) m')] → False := by
        intro b hb
        cases b with
        | true =>
          rw [bor_t hb] at hc
          cases hc
        | false =>
          rw [bor_f hb t2] at hc
          cases hc
      exact key _ (blt_ok rfl (len_var rfl) rfl)
    · omega
  subst hje
  rw [ret_ok (d := .ptr 0) (M1 := [.lst (pairs (ls.take ls.length) m')]) rfl, fin_ptr (l := pairs (ls.take ls.length) m') rfl (bnd_pairs _ _), List.take_length]

/-! ### joined -/
theorem iEn_lst {fa : EF} {ρ : Ro} {l : List D} {M M1 : Mem} (h : fa ρ M = .ok (.lst l) M1) : iEn fa ρ M = .ok ⟨enumL l, none⟩ M1 := by
  unfold iEn
  rw [h]
  rfl
/-- the lines of a text -/
theorem lines_ok {t : Str} {ρ : Ro} (ht : t.length ≤ 10000) (M : Mem) (h6 : ρ[6]? = some (some (.str t))) (h7 : 7 < ρ.length) :
    eLcF (iL (eMt "str" splitD (eVar 6) (aCons (eC (.str "\n")) aNil))) [7] (gNm 7) (bOf (eBin neD (eVar 7) (eC (.str "")))) (eVar 7) ρ M = .ok (.lst ((nonE (Txt.split t "\n")).map .str)) M := by
  have hs : (Txt.split t "\n").length ≤ t.length + 1 := split_len tl_nl (by decide)
  have hn : (("\n" : Str).length == 0) = false := by decide
  refine Eq.trans (eLcF_fm (it := ⟨(Txt.split t "\n").map .str, none⟩) (M := M) (fun d => match d with
    | .str y => if y ≠ "" then some (.str y) else none
    | _ => none) (by
      unfold iL
      rw [eMt_ok (a := .str t) (l := [.str "\n"]) (M1 := M) (M2 := M) (var_ok h6) rfl rfl]
      unfold splitD
      dsimp only
      rw [if_pos ⟨hn, by omega⟩]
      rfl) trivial (by rw [List.length_map]; omega) fun d hd => ?_) ?_
  · obtain ⟨y, _, rfl⟩ := List.mem_map.mp hd
    refine ⟨_, rfl, ?_⟩
    have h7' : (((wipeR ρ [7]).set 7 (some (.str y)) : Ro)[7]? : Option (Option D)) = some (some (.str y)) := List.getElem?_set_self (by
      show 7 < (ρ.set 7 none).length
      rwa [List.length_set])
    by_cases hy : y = ""
    · refine .inr ⟨by simp [hy], bof_ok ((bin_ok (var_ok h7') rfl).trans ?_)⟩
      rw [hy]
      show Fl.ok (D.bl (!decide (("" : Str) = ""))) _ = _
      simp
    · refine .inl ⟨.str y, by simp [hy], bof_ok ((bin_ok (var_ok h7') rfl).trans ?_), var_ok h7'⟩
      show Fl.ok (D.bl (!decide (y = ""))) _ = _
      simp [hy]
  · congr 2
    have e : ∀ l : List Str, (l.map D.str).filterMap (fun d => match d with
      | .str y => if y ≠ "" then some (D.str y) else none
      | _ => none) = (nonE l).map .str := by
      intro l
      induction l with
      | nil => rfl
      | cons y l ih =>
        rw [List.map_cons, List.filterMap_cons, ih, show y :: l = [y] ++ l from rfl, nonE_app]
        by_cases hy : y = ""
        · simp [hy, nonE_e]
        · simp [hy, nonE_one hy]
    exact e _
theorem g_joined (texts : List Str) (n : Int) (rows : List Str) (hT : 1 ≤ texts.length) (hT2 : texts.length ≤ 16) (hr : rows.length ≤ 8) (hrow : ∀ r ∈ rows, Row r)
    (ht : ∀ t ∈ texts, nonE (Txt.split t "\n") = rows ∧ t.length ≤ 10000) : G_joined [.lst (texts.map .str), .int n] = .ok (.str (Txt.join "\n" rows)) := by
  unfold G_joined B_joined
  rw [show startR N_joined [.lst (texts.map .str), .int n] = [some (.lst (texts.map .str)), some (.int n), none, none, none, none, none, none, none] from rfl]
  rw [seq_nx (ρ1 := [some (.lst (texts.map .str)), some (.int n), some (.lst []), none, none, none, none, none, none]) (M1 := []) rfl]
  have hlt : (texts.map D.str).length = texts.length := by simp
  obtain ⟨ρ', M', e, a, b, rfl, rfl⟩ := sFor_nx (ρ := [some (.lst (texts.map .str)), some (.int n), some (.lst []), none, none, none, none, none, none]) (M0 := []) (M := []) (it := ⟨enumL (texts.map .str), none⟩)
    (fi := iEn (eVar 0)) (g := gTp 2 (gC (gNm 5) (gC (gNm 6) gN))) (body := sSet 2 (eCall 3 G_laid_among (aCons (eVar 2) (aCons (eLcF (iL (eMt "str" splitD (eVar 6) (aCons (eC (.str "\n")) aNil))) [7] (gNm 7) (bOf (eBin neD (eVar 7) (eC (.str "")))) (eVar 7)) (aCons (eBin shlD (eC (.int 1)) (eVar 5)) aNil)))))
    (fun j ρ M => ∃ (a b : Option D), ρ = [some (.lst (texts.map .str)), some (.int n), some (.lst (if (decide (j = 0)) then [] else pairs rows (2 ^ j - 1))), none, none, a, b, none, none] ∧ M = []) (iEn_lst rfl) (by
      rintro j d ρ M hd ⟨a, b, rfl, rfl⟩
      obtain ⟨d', hd', rfl⟩ := enumL_get hd
      rw [List.getElem?_map] at hd'
      cases et : texts[j]? with
      | none => rw [et] at hd'; cases hd'
      | some t =>
        rw [et] at hd'
        have hd' := Option.some.inj hd'
        subst hd'
        have hj : j < texts.length := (List.getElem?_eq_some_iff.mp et).1
        obtain ⟨ht1, ht2⟩ := ht t (List.mem_of_getElem? et)
        refine ⟨trivial, _, rfl, ?_⟩
        have hlines := lines_ok (ρ := [some (.lst (texts.map .str)), some (.int n), some (.lst (if (decide (j = 0)) then [] else pairs rows (2 ^ j - 1))), none, none, some (.int (j : Nat)), some (.str t), none, none]) ht2 [] rfl (by show 7 < 9; decide)
        rw [ht1] at hlines
        refine ⟨_, [], .inl (set_ok (call_ok (m := 3) (M1 := []) (l := [.lst (if (decide (j = 0)) then [] else pairs rows (2 ^ j - 1)), .lst (rows.map .str), .int (1 * 2 ^ (j : Int).toNat)]) (acons_ok rfl (acons_ok hlines (aone_ok ((bin_ok (b := .int (j : Nat)) rfl rfl).trans ?_)))) rfl ?_ (g_laid rows hr (decide (j = 0)) (2 ^ j - 1) (1 * 2 ^ (j : Int).toNat)) (bnd_pairs _ _))), some (.int (j : Nat)), some (.str t), ?_, rfl⟩
        · unfold shlD
          dsimp only
          rw [if_pos ⟨by omega, by decide⟩]
        · refine ⟨?_, by simp, trivial, trivial⟩
          show bndL 0 _
          split
          · trivial
          · exact bnd_pairs _ _
        · show [some (D.lst (texts.map .str)), some (.int n), some (.lst (pairs rows (if (decide (j = 0)) = true then 1 * 2 ^ (j : Int).toNat else Builtin.bitOr (2 ^ j - 1) (1 * 2 ^ (j : Int).toNat)))), none, none, some (.int (j : Nat)), some (.str t), none, none] = [some (D.lst (texts.map .str)), some (.int n), some (.lst (if (decide (j + 1 = 0)) then [] else pairs rows (2 ^ (j + 1) - 1))), none, none, some (.int (j : Nat)), some (.str t), none, none]
          have hm : (if (decide (j = 0)) = true then 1 * 2 ^ (j : Int).toNat else Builtin.bitOr (2 ^ j - 1) (1 * 2 ^ (j : Int).toNat)) = (2 : Int) ^ (j + 1) - 1 := by
            rw [Int.toNat_natCast]
            by_cases h0 : j = 0
            · subst h0
              rfl
            · rw [decide_eq_false h0, if_neg Bool.false_ne_true]
              have hp : (0 : Int) < 2 ^ j := Int.pow_pos (by decide)
              rw [Bits.bitOr_join (by omega) (by omega) (by decide), Int.pow_succ]
              omega
          rw [hm, decide_eq_false (by omega), if_neg Bool.false_ne_true]) (fun _ _ _ => trivial) ⟨none, none, rfl, rfl⟩
  rw [seq_nx e]
  rw [show (⟨enumL (texts.map .str), none⟩ : Wk).items.length = texts.length by
    show (enumL _).length = _
    rw [len_enum, hlt], decide_eq_false (by omega), if_neg Bool.false_ne_true]
  -- whole
  rw [seq_nx (ρ1 := [some (.lst (texts.map .str)), some (.int n), some (.lst (pairs rows (2 ^ texts.length - 1))), some (.int (2 ^ texts.length - 1)), none, a, b, none, none]) (M1 := []) (set_ok (by
    refine (bin_ok (a := .int (1 * 2 ^ ((texts.length : Nat) : Int).toNat)) (b := .int 1) (M1 := []) (M2 := []) ((bin_ok rfl (len_var rfl)).trans ?_) rfl).trans ?_
    · rw [hlt]
      unfold shlD
      dsimp only
      rw [if_pos ⟨by omega, by decide⟩]
    · rw [Int.toNat_natCast]
      show Fl.ok (D.int (1 * 2 ^ texts.length - 1)) [] = _
      rw [Int.one_mul]))]
  rw [seq_nx (ρ1 := [some (.lst (texts.map .str)), some (.int n), some (.lst (pairs rows (2 ^ texts.length - 1))), some (.int (2 ^ texts.length - 1)), some (.ptr 0), a, b, none, none]) (M1 := [.lst []]) rfl]
  obtain ⟨ρ', M', e, c, d, rfl, rfl⟩ := sFor_nx (ρ := [some (.lst (texts.map .str)), some (.int n), some (.lst (pairs rows (2 ^ texts.length - 1))), some (.int (2 ^ texts.length - 1)), some (.ptr 0), a, b, none, none]) (M0 := [.lst []]) (M := [.lst []]) (it := ⟨pairs rows (2 ^ texts.length - 1), none⟩)
    (fi := iL (eVar 2)) (g := gTp 2 (gC (gNm 7) (gC (gNm 8) gN))) (body := sIf (bOf (eBin eqD (eVar 8) (eVar 3))) (sEx (eMt "list" appD (eVar 4) (aCons (eVar 7) aNil))) (sEx (eMt "list" appD (eVar 4) (aCons (eBin addD (eBin addD (eBin addD (eBin addD (eC (.str "<")) eFail) (eC (.str " "))) (eVar 7)) (eC (.str " >"))) aNil))))
    (fun j ρ M => ∃ (c d : Option D), ρ = [some (.lst (texts.map .str)), some (.int n), some (.lst (pairs rows (2 ^ texts.length - 1))), some (.int (2 ^ texts.length - 1)), some (.ptr 0), a, b, c, d] ∧ M = [.lst ((rows.take j).map .str)]) (iL_lst rfl) (by
      rintro j d ρ M hd ⟨c, d2, rfl, rfl⟩
      have hd : (pairs rows (2 ^ texts.length - 1))[j]? = some d := hd
      unfold pairs at hd
      rw [List.getElem?_map] at hd
      cases er : rows[j]? with
      | none => rw [er] at hd; cases hd
      | some r =>
        rw [er] at hd
        have hd := Option.some.inj hd
        subst hd
        have hj : j < rows.length := (List.getElem?_eq_some_iff.mp er).1
        refine ⟨trivial, _, rfl, ?_⟩
        refine ⟨_, [.lst ((rows.take (j + 1)).map .str)], .inl ?_, some (.str r), some (.int (2 ^ texts.length - 1)), rfl, rfl⟩
        refine (if_ok (beqI_ok (i := 2 ^ texts.length - 1) (j := 2 ^ texts.length - 1) rfl rfl (decide_eq_true rfl))).trans ?_
        rw [if_pos rfl]
        refine ex_ok (d := .non) ((eMt_ok (a := .ptr 0) (l := [.str r]) (M1 := [.lst ((rows.take j).map .str)]) (M2 := [.lst ((rows.take j).map .str)]) rfl rfl rfl).trans ?_)
        rw [app_ptr rfl (by rw [List.length_map, List.length_take]; omega), List.take_add_one, er, List.map_append]
        rfl) (fun _ _ _ => trivial) ⟨none, none, rfl, rfl⟩
  rw [seq_nx e]
  have hlen : (pairs rows (2 ^ texts.length - 1)).length = rows.length := by simp [pairs]
  rw [show (⟨pairs rows (2 ^ texts.length - 1), none⟩ : Wk).items.length = rows.length from hlen, List.take_length]
  have hsum : (rows.map (·.length)).sum + rows.length * ("\n" : Str).length ≤ 1000000 := by
    have := sum_len rows fun r h => (hrow r h).2.2
    rw [show ("\n" : Str).length = 1 by rw [len_tl, tl_nl]; rfl]
    omega
  rw [ret_ok (d := .str (Txt.join "\n" rows)) (M1 := [.lst (rows.map .str)]) (by
    refine (eMt_ok (a := .str "\n") (l := [.ptr 0]) (M1 := [.lst (rows.map .str)]) (M2 := [.lst (rows.map .str)]) rfl rfl rfl).trans ?_
    unfold joinD
    dsimp only [itemsD]
    rw [show ([MO.lst (rows.map .str)] : Mem)[0]? = some (.lst (rows.map .str)) from rfl]
    dsimp only
    rw [strsOf_strs]
    dsimp only
    rw [if_pos hsum])]
  exact fin_rt trivial

/-! ### the law -/
theorem kit_str : kitB "str" "str" = some true := by decide +kernel
theorem fine_lt {x : Str} (h : Fine x) : ∀ c ∈ x.cps.toList, c < 1114112 := fun c hc => Nat.lt_trans (h c hc).1 (by decide)
theorem nonE_rows {rs : List Str} (h : ∀ r ∈ rs, Row r) : nonE rs = rs := by
  unfold nonE
  rw [List.filter_eq_self]
  intro r hr
  refine decide_eq_true fun z => ?_
  have := (h r hr).2.1
  rw [z] at this
  exact absurd this (by decide)
/-- the rows of a text of rows -/
theorem split_text {fs rows : List Str} (h1 : nonE fs = rows) (h2 : ∀ f ∈ fs, f = "" ∨ Row f) : nonE (Txt.split (Txt.join "\n" fs) "\n") = rows := by
  cases fs with
  | nil =>
    have : rows = [] := by rw [← h1]; rfl
    rw [this, show Txt.join "\n" [] = ("" : Str) from rfl, split_nil _ 10 tl_nl (by decide) "" (by decide +kernel)]
    exact nonE_e
  | cons f fs =>
    rw [split_join _ 10 tl_nl (by decide) _ (by simp) fun p hp => ?_, h1]
    rcases h2 p hp with h | h
    · rw [h]
      decide +kernel
    · exact fun z => (h.1 10 z).2.1 rfl
theorem law_loop1 (ns : List Int) (hn : ns.length ≤ 63) : ∃ (rs : List Str) (c : Option D), (∀ r ∈ rs, Row r) ∧ rs.length ≤ 8 ∧
    sFor (iL (eSl (eVar 0) (oIx (eC (.int 3))) (oIx (eC (.int 11))))) (gNm 2) (sIf (bAnd (bOf (eBin eqD (eBin modD (eVar 2) (eC (.int 5))) (eC (.int 0)))) (bOf (eBin neD (eVar 1) (eCa lstF aNil)))) (sEx (eMt "list" appD (eVar 1) (aCons (eBin ixD (eVar 1) (eBin modD (eBin divD (eVar 2) (eC (.int 5))) (eCa lenD (aCons (eVar 1) aNil)))) aNil))) (sEx (eMt "list" appD (eVar 1) (aCons (eCall 1 G_law_row (aCons (eCall 2 G_law_mixed (aCons (eVar 2) (aCons (eC (.int 1)) aNil))) aNil)) aNil))))
      [some (.scr (ns.map .int)), some (.ptr 0), none, none, none, none, none, none, none, none] [.lst []] = .ok (.nx [some (.scr (ns.map .int)), some (.ptr 0), c, none, none, none, none, none, none, none]) [.lst (rs.map .str)] := by
  have hcl : (cutL (ns.map D.int) (some 3) (some 11)).length ≤ 8 := by
    unfold cutL
    rw [show HT.sIx (ns.map D.int).length (ns.map D.int).length (some 11) = min 11 (ns.map D.int).length from HT.sIx_nat _ _ 11, show HT.sIx (ns.map D.int).length 0 (some 3) = min 3 (ns.map D.int).length from HT.sIx_nat _ _ 3, List.length_take]
    omega
  have hci : ∀ d ∈ cutL (ns.map D.int) (some 3) (some 11), ∃ c : Int, d = .int c := fun d hd => by
    have := List.mem_of_mem_drop (List.mem_of_mem_take hd)
    obtain ⟨c, _, rfl⟩ := List.mem_map.mp this
    exact ⟨c, rfl⟩
  obtain ⟨ρ', M', e, rs, c, rfl, rfl, h1, h2⟩ := sFor_nx (ρ := [some (.scr (ns.map .int)), some (.ptr 0), none, none, none, none, none, none, none, none]) (M0 := [.lst []]) (M := [.lst []]) (it := ⟨cutL (ns.map D.int) (some 3) (some 11), none⟩)
    (fi := iL (eSl (eVar 0) (oIx (eC (.int 3))) (oIx (eC (.int 11))))) (g := gNm 2) (body := sIf (bAnd (bOf (eBin eqD (eBin modD (eVar 2) (eC (.int 5))) (eC (.int 0)))) (bOf (eBin neD (eVar 1) (eCa lstF aNil)))) (sEx (eMt "list" appD (eVar 1) (aCons (eBin ixD (eVar 1) (eBin modD (eBin divD (eVar 2) (eC (.int 5))) (eCa lenD (aCons (eVar 1) aNil)))) aNil))) (sEx (eMt "list" appD (eVar 1) (aCons (eCall 1 G_law_row (aCons (eCall 2 G_law_mixed (aCons (eVar 2) (aCons (eC (.int 1)) aNil))) aNil)) aNil))))
    (fun j ρ M => ∃ (rs : List Str) (c : Option D), ρ = [some (.scr (ns.map .int)), some (.ptr 0), c, none, none, none, none, none, none, none] ∧ M = [.lst (rs.map .str)] ∧ (∀ r ∈ rs, Row r) ∧ rs.length = j) (iL_lst rfl) (by
      rintro j d ρ M hd ⟨rs, c0, rfl, rfl, h1, h2⟩
      have hd : (cutL (ns.map D.int) (some 3) (some 11))[j]? = some d := hd
      obtain ⟨c, rfl⟩ := hci d (List.mem_of_getElem? hd)
      have hj : j < 8 := Nat.lt_of_lt_of_le (List.getElem?_eq_some_iff.mp hd).1 hcl
      refine ⟨trivial, _, rfl, ?_⟩
      have fin : ∀ r, Row r → ∃ ρ2 M2, sEx (eMt "list" appD (eVar 1) (aCons (fun _ M => .ok (.str r) M) aNil)) [some (.scr (ns.map .int)), some (.ptr 0), some (.int c), none, none, none, none, none, none, none] [.lst (rs.map .str)] = .ok (.nx ρ2) M2 ∧
          ∃ (rs : List Str) (c : Option D), ρ2 = [some (.scr (ns.map .int)), some (.ptr 0), c, none, none, none, none, none, none, none] ∧ M2 = [.lst (rs.map .str)] ∧ (∀ r ∈ rs, Row r) ∧ rs.length = j + 1 := fun r hr => by
        refine ⟨_, [.lst ((rs ++ [r]).map .str)], ex_ok (d := .non) ((eMt_ok (a := .ptr 0) (l := [.str r]) (M1 := [.lst (rs.map .str)]) (M2 := [.lst (rs.map .str)]) rfl rfl rfl).trans ?_), rs ++ [r], _, rfl, rfl, ?_, ?_⟩
        · rw [app_ptr rfl (by rw [List.length_map]; omega), List.map_append]
          rfl
        · intro q hq
          rcases List.mem_append.mp hq with hq | hq
          · exact h1 q hq
          · rw [List.mem_singleton] at hq
            exact hq ▸ hr
        · rw [List.length_append, h2]
          rfl
      have swap : ∀ (fe : EF) (r : Str), fe [some (.scr (ns.map .int)), some (.ptr 0), some (.int c), none, none, none, none, none, none, none] [.lst (rs.map .str)] = .ok (.str r) [.lst (rs.map .str)] → sEx (eMt "list" appD (eVar 1) (aCons fe aNil)) [some (.scr (ns.map .int)), some (.ptr 0), some (.int c), none, none, none, none, none, none, none] [.lst (rs.map .str)] = sEx (eMt "list" appD (eVar 1) (aCons (fun _ M => .ok (.str r) M) aNil)) [some (.scr (ns.map .int)), some (.ptr 0), some (.int c), none, none, none, none, none, none, none] [.lst (rs.map .str)] := fun fe r h => by
        have e1 : eMt "list" appD (eVar 1) (aCons fe aNil) [some (.scr (ns.map .int)), some (.ptr 0), some (.int c), none, none, none, none, none, none, none] [.lst (rs.map .str)] = appD (.ptr 0) [.str r] [.lst (rs.map .str)] := eMt_ok rfl rfl (aone_ok h)
        have e2 : eMt "list" appD (eVar 1) (aCons (fun _ M => .ok (.str r) M) aNil) [some (.scr (ns.map .int)), some (.ptr 0), some (.int c), none, none, none, none, none, none, none] [.lst (rs.map .str)] = appD (.ptr 0) [.str r] [.lst (rs.map .str)] := eMt_ok rfl rfl rfl
        unfold sEx
        rw [e1, e2]
      have t1 : bOf (eBin eqD (eBin modD (eVar 2) (eC (.int 5))) (eC (.int 0))) [some (.scr (ns.map .int)), some (.ptr 0), some (.int c), none, none, none, none, none, none, none] [.lst (rs.map .str)] = .ok (decide (c % 5 = 0)) [.lst (rs.map .str)] := beqI_ok ((bin_ok rfl rfl).trans rfl) rfl rfl
      have t2 : bOf (eBin neD (eVar 1) (eCa lstF aNil)) [some (.scr (ns.map .int)), some (.ptr 0), some (.int c), none, none, none, none, none, none, none] [.lst (rs.map .str)] = .ok (!decide (rs = [])) [.lst (rs.map .str)] := by
        refine bof_ok ((bin_ok (a := .ptr 0) (b := .lst ([].map .str)) (M1 := [.lst (rs.map .str)]) (M2 := [.lst (rs.map .str)]) rfl rfl).trans ?_)
        unfold neD
        rw [show eqS (.ptr 0) (.lst (([] : List Str).map .str)) = none from rfl]
        dsimp only
        rw [eqD_strs (l := rs) (m := []) rfl rfl (fun x hx => fine_lt (h1 x hx).1) (fun x hx => by cases hx)]
      by_cases hx : c % 5 = 0 ∧ rs ≠ []
      · rw [decide_eq_true hx.1] at t1
        rw [decide_eq_false hx.2] at t2
        have hpos : 0 < rs.length := List.length_pos_iff.mpr hx.2
        have hm0 : 0 ≤ c / 5 % (rs.length : Int) := Int.emod_nonneg _ (by omega)
        have hm1 : c / 5 % (rs.length : Int) < rs.length := Int.emod_lt_of_pos _ (by omega)
        obtain ⟨d, hd1, hd2⟩ := atI_in (l := rs.map D.str) (k := c / 5 % (rs.length : Int)) hm0 (by rw [List.length_map]; exact hm1)
        obtain ⟨r, hr, rfl⟩ := List.mem_map.mp hd2
        obtain ⟨ρ2, M2, e2, hI⟩ := fin r (h1 r hr)
        refine ⟨ρ2, M2, .inl ((if_ok (band_t t1 t2)).trans ?_), hI⟩
        rw [if_pos (by rfl)]
        refine (swap _ r ?_).trans e2
        refine (bin_ok (a := .ptr 0) (b := .int (c / 5 % (rs.length : Int))) (M1 := [.lst (rs.map .str)]) (M2 := [.lst (rs.map .str)]) rfl ((bin_ok (a := .int (c / 5)) (b := .int (rs.length : Int)) (M1 := [.lst (rs.map .str)]) (M2 := [.lst (rs.map .str)]) ((bin_ok rfl rfl).trans rfl) ?_).trans ?_)).trans ?_
        · rw [len_ptr (l := rs.map .str) rfl rfl, List.length_map]
        · unfold modD
          dsimp only
          rw [if_pos (by omega)]
        · unfold ixD
          dsimp only [itemsD]
          rw [show ([MO.lst (rs.map .str)] : Mem)[0]? = some (.lst (rs.map .str)) from rfl]
          dsimp only
          rw [hd1]
      · have tf : bAnd (bOf (eBin eqD (eBin modD (eVar 2) (eC (.int 5))) (eC (.int 0)))) (bOf (eBin neD (eVar 1) (eCa lstF aNil))) [some (.scr (ns.map .int)), some (.ptr 0), some (.int c), none, none, none, none, none, none, none] [.lst (rs.map .str)] = .ok false [.lst (rs.map .str)] := by
          by_cases h5 : c % 5 = 0
          · rw [decide_eq_true h5] at t1
            rw [decide_eq_true (Classical.not_not.mp fun z => hx ⟨h5, z⟩)] at t2
            exact band_t t1 t2
          · rw [decide_eq_false h5] at t1
            exact band_f t1
        obtain ⟨w, hw, hr⟩ := g_row (mixN c 1) (mix_nn c 1)
        obtain ⟨ρ2, M2, e2, hI⟩ := fin w hr
        refine ⟨ρ2, M2, .inl ((if_ok tf).trans ?_), hI⟩
        rw [if_neg Bool.false_ne_true]
        refine (swap _ w ?_).trans e2
        exact call_ok (aone_ok (call_ok (l := [.int c, .int 1]) rfl rfl (by simp) (g_mixed c 1) trivial)) rfl (by simp) hw trivial) (fun _ _ _ => trivial) ⟨[], none, rfl, rfl, (fun r hr => by cases hr), rfl⟩
  refine ⟨rs, c, h1, ?_, e⟩
  have : rs.length = (cutL (ns.map D.int) (some 3) (some 11)).length := h2
  omega

theorem cell_call (ns : List Int) (k : Nat) {ρ : Ro} {M : Mem} (h : ρ[0]? = some (some (.scr (ns.map .int)))) : eCall 2 G_law_cell_at (aCons (eVar 0) (aCons (eC (.int (k : Nat))) aNil)) ρ M = .ok (.int (ns.getD k 0)) M :=
  call_ok (l := [.scr (ns.map .int), .int (k : Nat)]) (acons_ok (var_ok h) rfl) rfl (by simp) (g_cell ns k) trivial
theorem law_true (ns : List Int) (hn : ns.length ≤ 63) : G_law [.scr (ns.map .int)] = .ok (.bl true) := by
  unfold G_law B_law
  generalize hS : D.scr (ns.map .int) = sc
  rw [show startR N_law [sc] = [some sc, none, none, none, none, none, none, none, none, none] from rfl]
  have cell : ∀ (k : Nat) (r : Ro) (M : Mem), eCall 2 G_law_cell_at (aCons (eVar 0) (aCons (eC (.int (k : Nat))) aNil)) (some sc :: r) M = .ok (.int (ns.getD k 0)) M := fun k r M => cell_call ns k (by rw [← hS]; rfl)
  rw [seq_nx (ρ1 := [some sc, some (.ptr 0), none, none, none, none, none, none, none, none]) (M1 := [.lst []]) rfl]
  obtain ⟨rs, c, hr, hl, e1⟩ := law_loop1 ns hn
  rw [hS] at e1
  rw [seq_nx e1]
  -- many
  generalize ha : ns.getD 0 0 % 16 = a
  have ha0 : 0 ≤ a := by rw [← ha]; exact Int.emod_nonneg _ (by decide)
  have ha1 : a < 16 := by rw [← ha]; exact Int.emod_lt_of_pos _ (by decide)
  generalize hR : D.lst (rs.map .str) = R
  have hRl : ∀ (r : Ro) (x : Option D) (M : Mem), eCa lenD (aCons (eVar 1) aNil) (x :: some R :: r) M = .ok (.int rs.length) M := fun r x M => by rw [len_var (l := rs.map .str) (by rw [← hR]; rfl), List.length_map]
  rw [seq_nx (ρ1 := [some sc, some R, c, some (.int (1 + a)), none, none, none, none, none, none]) (M1 := [.gone]) (by
    show sSet 3 _ [some sc, some (.lst (rs.map .str)), c, none, none, none, none, none, none, none] [.gone] = _
    rw [hR]
    refine set_ok ((bin_ok (a := .int 1) (b := .int a) (M1 := [.gone]) (M2 := [.gone]) rfl ((bin_ok (cell 0 _ _) rfl).trans ?_)).trans rfl)
    rw [← ha]
    rfl)]
  -- while many * (len + 1) > 60
  obtain ⟨ρ', M', e2, ⟨m, hm0, hm1, rfl, rfl⟩, hc⟩ := sWhile_nx (N := 100) (c := bOf (eBin gtD (eBin mulD (eVar 3) (eBin addD (eCa lenD (aCons (eVar 1) aNil)) (eC (.int 1)))) (eC (.int 60)))) (f := sSet 3 (eBin subD (eVar 3) (eC (.int 1))))
    (ρ := [some sc, some R, c, some (.int (1 + a)), none, none, none, none, none, none]) (M := [.gone])
    (fun ρ M => ∃ m : Int, 1 ≤ m ∧ m ≤ 16 ∧ ρ = [some sc, some R, c, some (.int m), none, none, none, none, none, none] ∧ M = [.gone])
    (fun ρ M => match (ρ[3]? : Option (Option D)) with
      | some (some (D.int j)) => j.toNat
      | _ => 0) (by
      rintro ρ M ⟨m, h0, h1, rfl, rfl⟩
      have t : bOf (eBin gtD (eBin mulD (eVar 3) (eBin addD (eCa lenD (aCons (eVar 1) aNil)) (eC (.int 1)))) (eC (.int 60))) [some sc, some R, c, some (.int m), none, none, none, none, none, none] [.gone] = .ok (decide (60 < m * ((rs.length : Int) + 1))) [.gone] := by
        refine bgt_ok (i := m * ((rs.length : Int) + 1)) (j := 60) (M1 := [.gone]) ((bin_ok (a := .int m) (b := .int ((rs.length : Int) + 1)) (M1 := [.gone]) (M2 := [.gone]) rfl ((bin_ok (hRl _ _ _) rfl).trans rfl)).trans ?_) rfl rfl
        unfold mulD
        dsimp only
        rw [if_pos (.inl ⟨by omega, by omega⟩)]
      refine ⟨_, t, fun hd => ⟨_, [.gone], .inl rfl, ⟨m - 1, ?_, by omega, rfl, rfl⟩, ?_⟩⟩
      · have h60 := of_decide_eq_true hd
        by_cases hm1 : m = 1
        · subst hm1
          omega
        · omega
      · show (m - 1).toNat < m.toNat
        omega) ⟨1 + a, by omega, by omega, rfl, rfl⟩ (by
      show (1 + a).toNat < 100
      omega)
  rw [seq_nx e2]
  have hm60 : m * ((rs.length : Int) + 1) ≤ 60 := by
    have t : bOf (eBin gtD (eBin mulD (eVar 3) (eBin addD (eCa lenD (aCons (eVar 1) aNil)) (eC (.int 1)))) (eC (.int 60))) [some sc, some R, c, some (.int m), none, none, none, none, none, none] [.gone] = .ok (decide (60 < m * ((rs.length : Int) + 1))) [.gone] := by
      refine bgt_ok (i := m * ((rs.length : Int) + 1)) (j := 60) (M1 := [.gone]) ((bin_ok (a := .int m) (b := .int ((rs.length : Int) + 1)) (M1 := [.gone]) (M2 := [.gone]) rfl ((bin_ok (hRl _ _ _) rfl).trans rfl)).trans ?_) rfl rfl
      unfold mulD
      dsimp only
      rw [if_pos (.inl ⟨by omega, by omega⟩)]
    rw [t] at hc
    injection hc with hc _
    have := of_decide_eq_false hc
    omega
  -- n
  rw [seq_nx (ρ1 := [some sc, some R, c, some (.int m), some (.int 0), none, none, none, none, none]) (M1 := [.gone]) rfl]
  obtain ⟨ρ', M', e3, ⟨n, hn0, hn1, rfl, rfl⟩, _⟩ := sWhile_nx (N := 100) (c := bOf (eBin ltD (eBin shlD (eC (.int 1)) (eVar 4)) (eVar 3))) (f := sSet 4 (eBin addD (eVar 4) (eC (.int 1))))
    (ρ := [some sc, some R, c, some (.int m), some (.int 0), none, none, none, none, none]) (M := [.gone])
    (fun ρ M => ∃ n : Int, 0 ≤ n ∧ n ≤ 5 ∧ ρ = [some sc, some R, c, some (.int m), some (.int n), none, none, none, none, none] ∧ M = [.gone])
    (fun ρ M => match (ρ[4]? : Option (Option D)) with
      | some (some (D.int j)) => 6 - j.toNat
      | _ => 0) (by
      rintro ρ M ⟨n, h0, h1, rfl, rfl⟩
      have t : bOf (eBin ltD (eBin shlD (eC (.int 1)) (eVar 4)) (eVar 3)) [some sc, some R, c, some (.int m), some (.int n), none, none, none, none, none] [.gone] = .ok (decide (1 * 2 ^ n.toNat < m)) [.gone] := by
        refine blt_ok (i := 1 * 2 ^ n.toNat) (j := m) (M1 := [.gone]) ((bin_ok rfl rfl).trans ?_) rfl rfl
        unfold shlD
        dsimp only
        rw [if_pos ⟨by omega, by decide⟩]
      refine ⟨_, t, fun hd => ⟨_, [.gone], .inl rfl, ⟨n + 1, by omega, ?_, rfl, rfl⟩, ?_⟩⟩
      · have hlt := of_decide_eq_true hd
        by_cases h5 : n = 5
        · subst h5
          have : (1 : Int) * 2 ^ (5 : Int).toNat = 32 := by decide
          omega
        · omega
      · have hlt := of_decide_eq_true hd
        have h5 : n ≠ 5 := fun h5 => by
          subst h5
          have : (1 : Int) * 2 ^ (5 : Int).toNat = 32 := by decide
          omega
        show 6 - (n + 1).toNat < 6 - n.toNat
        omega) ⟨0, by omega, by omega, rfl, rfl⟩ (by
      show 6 - (0 : Int).toNat < 100
      decide)
  rw [seq_nx e3]
  generalize hb : ns.getD 1 0 % 5 = b
  rw [seq_nx (ρ1 := [some sc, some R, c, some (.int m), some (.int (if n + b < 10 then n + b else 10)), none, none, none, none, none]) (M1 := [.gone]) (by
    refine set_ok ((ca_ok (l := [.int 10, .int (n + b)]) (M1 := [.gone]) (acons_ok rfl (aone_ok ((bin_ok (a := .int n) (b := .int b) (M1 := [.gone]) (M2 := [.gone]) rfl ((bin_ok (cell 1 _ _) rfl).trans ?_)).trans rfl)))).trans rfl)
    rw [← hb]
    rfl)]
  generalize hnn : (if n + b < 10 then n + b else 10) = n2
  -- room
  rw [seq_nx (ρ1 := [some sc, some R, c, some (.int m), some (.int n2), some (.int (60 / m - rs.length)), none, none, none, none]) (M1 := [.gone]) (by
    refine set_ok ((bin_ok (a := .int (60 / m)) (b := .int rs.length) (M1 := [.gone]) (M2 := [.gone]) ((bin_ok rfl rfl).trans ?_) (hRl _ _ _)).trans rfl)
    unfold divD
    dsimp only
    rw [if_pos ⟨by omega, by omega⟩])]
  generalize hrm : 60 / m - (rs.length : Int) = room
  rw [seq_nx (ρ1 := [some sc, some R, c, some (.int m), some (.int n2), some (.int room), some (.ptr 1), none, none, none]) (M1 := [.gone, .lst []]) rfl]
  -- the texts
  obtain ⟨ρ', M', e4, ts, k, rfl, rfl, hts, htl⟩ := sFor_nx (ρ := [some sc, some R, c, some (.int m), some (.int n2), some (.int room), some (.ptr 1), none, none, none]) (M0 := [.gone, .lst []]) (M := [.gone, .lst []]) (it := ⟨rangeL 0 m.toNat, none⟩)
    (fi := iR1 (eVar 3)) (g := gNm 7) (body := sEx (eMt "list" appD (eVar 6) (aCons (eMt "str" joinD (eC (.str "\n")) (aCons (eCall 3 G_law_filled (aCons (eVar 1) (aCons (eBin addD (eCall 2 G_law_cell_at (aCons (eVar 0) (aCons (eC (.int 2)) aNil))) (eVar 7)) (aCons (eVar 5) aNil)))) aNil)) aNil)))
    (fun j ρ M => ∃ (ts : List Str) (k : Option D), ρ = [some sc, some R, c, some (.int m), some (.int n2), some (.int room), some (.ptr 1), k, none, none] ∧ M = [.gone, .lst (ts.map .str)] ∧ (∀ t ∈ ts, nonE (Txt.split t "\n") = rs ∧ t.length ≤ 10000) ∧ ts.length = j) (iR1_ok rfl (by omega) (by omega)) (by
      rintro j d ρ M hd ⟨ts, k, rfl, rfl, h1, h2⟩
      obtain ⟨hj, rfl⟩ := rangeL_get hd
      refine ⟨trivial, _, rfl, ?_⟩
      obtain ⟨fs, g1, g2, g3, g4⟩ := g_filled rs hr hl (ns.getD 2 0 + (0 + (j : Nat))) room
      have hsum : (fs.map (·.length)).sum ≤ fs.length * 40 := sum_len fs fun f hf => by
        rcases g4 f hf with h | h
        · rw [h]; decide
        · exact h.2.2
      have hnl : ("\n" : Str).length = 1 := by rw [len_tl, tl_nl]; rfl
      have hjoin : eMt "str" joinD (eC (.str "\n")) (aCons (eCall 3 G_law_filled (aCons (eVar 1) (aCons (eBin addD (eCall 2 G_law_cell_at (aCons (eVar 0) (aCons (eC (.int 2)) aNil))) (eVar 7)) (aCons (eVar 5) aNil)))) aNil)
          [some sc, some R, c, some (.int m), some (.int n2), some (.int room), some (.ptr 1), some (.int (0 + (j : Nat))), none, none] [.gone, .lst (ts.map .str)] = .ok (.str (Txt.join "\n" fs)) [.gone, .lst (ts.map .str)] := by
        refine (eMt_ok (a := .str "\n") (l := [.lst (fs.map .str)]) (M1 := [.gone, .lst (ts.map .str)]) (M2 := [.gone, .lst (ts.map .str)]) rfl rfl (aone_ok (call_ok (m := 3) (l := [R, .int (ns.getD 2 0 + (0 + (j : Nat))), .int room]) (acons_ok rfl (acons_ok ((bin_ok (cell 2 _ _) rfl).trans rfl) rfl)) rfl (by rw [← hR]; simp) (by rw [← hR]; exact g1) (by simp)))).trans ?_
        unfold joinD
        dsimp only [itemsD]
        rw [strsOf_strs]
        dsimp only
        rw [if_pos (by rw [hnl]; omega)]
      refine ⟨_, [.gone, .lst ((ts ++ [Txt.join "\n" fs]).map .str)], .inl (ex_ok (d := .non) ((eMt_ok (a := .ptr 1) (l := [.str (Txt.join "\n" fs)]) (M1 := [.gone, .lst (ts.map .str)]) (M2 := [.gone, .lst (ts.map .str)]) rfl rfl (aone_ok hjoin)).trans ?_)), ts ++ [Txt.join "\n" fs], _, rfl, rfl, ?_, ?_⟩
      · rw [app_ptr (l := ts.map .str) rfl (by rw [List.length_map]; omega), List.map_append]
        rfl
      · intro t ht
        rcases List.mem_append.mp ht with ht | ht
        · exact h1 t ht
        · rw [List.mem_singleton] at ht
          subst ht
          refine ⟨split_text g2 g4, ?_⟩
          rw [len_tl, join_tl, tl_nl]
          have := glueT_len [10] 40 fs fun f hf => by
            rcases g4 f hf with h | h
            · rw [h]; decide
            · exact h.2.2
          simp at this
          omega
      · rw [List.length_append, h2]
        rfl) (fun _ _ _ => trivial) ⟨[], none, rfl, rfl, (fun t ht => by cases ht), rfl⟩
  rw [seq_nx e4]
  have htl : ts.length = m.toNat := htl.trans (rangeL_length _ _)
  -- joined
  have hj := g_joined ts n2 rs (by omega) (by omega) hl hr hts
  rw [seq_nx (ρ1 := [some sc, some R, c, some (.int m), some (.int n2), some (.int room), some (.lst (ts.map .str)), k, some (.str (Txt.join "\n" rs)), none]) (M1 := [.gone, .gone]) (by
    show sSet 8 _ [some sc, some R, c, some (.int m), some (.int n2), some (.int room), some (.lst (ts.map .str)), k, none, none] [.gone, .gone] = _
    exact set_ok (call_ok (m := 2) (l := [.lst (ts.map .str), .int n2]) rfl rfl (by simp) hj trivial))]
  -- isinstance
  rw [seq_nx (ρ1 := [some sc, some R, c, some (.int m), some (.int n2), some (.int room), some (.lst (ts.map .str)), k, some (.str (Txt.join "\n" rs)), none]) (M1 := [.gone, .gone]) (by
    rw [if_ok (b := false) (M1 := [.gone, .gone]) (bnot_ok (b := true) (bof_ok (by
      show isiD "str" (.str (Txt.join "\n" rs)) [.gone, .gone] = _
      unfold isiD
      rw [show tyD [.gone, .gone] (.str (Txt.join "\n" rs)) = some "str" from rfl]
      dsimp only
      rw [kit_str])))]
    rfl)]
  -- no word that opens or closes a group
  have hfine : ∀ ch ∈ tl (Txt.join "\n" rs), ch ≠ 60 ∧ ch ≠ 62 := fun ch hch => by
    rw [join_tl, tl_nl] at hch
    rcases glueT_mem _ _ _ hch with h | ⟨w, hw, h⟩
    · rw [List.mem_singleton] at h
      subst h
      decide
    · exact ((hr w hw).1 ch h).2.2
  have hjl : (Txt.join "\n" rs).length ≤ 400 := by
    rw [len_tl, join_tl, tl_nl]
    have := glueT_len [10] 40 rs fun f hf => (hr f hf).2.2
    simp at this
    omega
  have hsp : (" " : Str).length = 1 := by rw [len_tl, tl_sp]; rfl
  have hrl : (Txt.replace (Txt.join "\n" rs) "\n" " ").length ≤ 1000 := by
    have := TK.replace_len (Txt.join "\n" rs) "\n" " "
    rw [hsp] at this
    omega
  generalize hX : Txt.join "\n" rs = X at *
  have hw : ∀ w ∈ Txt.split (Txt.replace X "\n" " ") " ", 60 ∉ tl w ∧ 62 ∉ tl w := fun w hw => by
    have key : ∀ ch ∈ tl w, ch ≠ 60 ∧ ch ≠ 62 := fun ch hch => by
      rcases repl_mem (by rw [len_tl, tl_nl]; decide) (split_mem tl_sp (by decide) hw hch) with h | h
      · rw [tl_sp, List.mem_singleton] at h
        subst h
        decide
      · exact hfine ch h
    exact ⟨fun z => (key 60 z).1 rfl, fun z => (key 62 z).2 rfl⟩
  obtain ⟨ρ', M', e5, hI⟩ := sFor_nx (ρ := [some sc, some R, c, some (.int m), some (.int n2), some (.int room), some (.lst (ts.map .str)), k, some (.str X), none]) (M0 := [.gone, .gone]) (M := [.gone, .gone]) (it := ⟨(Txt.split (Txt.replace X "\n" " ") " ").map .str, none⟩)
    (fi := iL (eSplitT (eRepl "\n" " " (eVar 8)) (eC (.str " ")))) (g := gNm 9) (body := sIf (bOr (bOf (eMt "str" startsD (eVar 9) (aCons (eC (.str "<")) aNil))) (bOf (eBin eqD (eVar 9) (eC (.str ">"))))) (sRet (eC (.bl false))) sNext)
    (fun _ ρ M => ∃ w : Option D, ρ = [some sc, some R, c, some (.int m), some (.int n2), some (.int room), some (.lst (ts.map .str)), k, some (.str X), w] ∧ M = [.gone, .gone]) (iL_lst (by
      unfold eSplitT eRepl
      rw [var_ok (d := .str X) rfl, Fl.bind_ok]
      dsimp only
      rw [if_pos (by rw [hsp]; omega), Fl.bind_ok]
      dsimp only
      refine Eq.trans (b := splitD (.str (Txt.replace X "\n" " ")) [.str " "] [.gone, .gone]) rfl ?_
      unfold splitD
      dsimp only
      rw [if_pos ⟨by rw [hsp]; rfl, by omega⟩])) (by
      rintro j d ρ M hd ⟨w0, rfl, rfl⟩
      have hd : ((Txt.split (Txt.replace X "\n" " ") " ").map D.str)[j]? = some d := hd
      obtain ⟨w, hwm, rfl⟩ := List.mem_map.mp (List.mem_of_getElem? hd)
      obtain ⟨h60, h62⟩ := hw w hwm
      refine ⟨trivial, _, rfl, _, _, .inl ((if_ok (b := false) (M1 := [.gone, .gone]) (bor_f (bof_ok ((eMt_ok (a := .str w) (l := [.str "<"]) (M1 := [.gone, .gone]) (M2 := [.gone, .gone]) rfl rfl rfl).trans ?_)) (beqS_ok (i := w) (j := ">") rfl rfl ?_))).trans rfl), _, rfl, rfl⟩
      · show Fl.ok (D.bl (Txt.startswith w "<")) _ = _
        rw [starts_no (s := 60) (by decide +kernel) h60]
      · refine decide_eq_false fun z => h62 ?_
        rw [z]
        decide +kernel) (fun _ _ _ => trivial) ⟨none, rfl, rfl⟩
  obtain ⟨w, rfl, rfl⟩ := hI
  rw [seq_nx e5]
  -- the rows again
  have hrows : nonE (Txt.split X "\n") = rs := by
    rw [← hX]
    exact split_text (nonE_rows hr) fun f hf => .inr (hr f hf)
  rw [ret_ok (d := .bl true) (M1 := [.gone, .gone]) (by
    refine (bin_ok (a := .lst (rs.map .str)) (b := R) (M1 := [.gone, .gone]) (M2 := [.gone, .gone]) (call_ok (m := 1) (l := [.str X]) rfl rfl (by simp) (by rw [g_rows X (by omega), hrows]) (by simp)) rfl).trans ?_
    rw [← hR]
    unfold eqD
    rw [show eqS (.lst (rs.map .str)) (.lst (rs.map .str)) = none from rfl]
    dsimp only
    rw [eqD_strs (l := rs) (m := rs) rfl rfl (fun x hx => fine_lt (hr x hx).1) (fun x hx => fine_lt (hr x hx).1), decide_eq_true rfl])]
  exact fin_rt trivial
end MM.Law

namespace MM.Law
open PySem PySem.Spec PyProof.Rows L2
def topS (i : Nat) : Stmt := PySem.Challenge.pw_manymakes_k72_joined_alike.main.body.getD i (.Pass ⟨0, 0, 0, 0⟩)
structure Tp (K : PySem.W.Frag) (mg : Str → Option Value) where
  f_common_lengths : Addr
  d_common_lengths : FuncData
  F_common_lengths : Fun K "common_lengths" "common_lengths" (topS 10) f_common_lengths d_common_lengths
  m_common_lengths : mg "common_lengths" = some (.ref f_common_lengths)
  b_common_lengths : Binds K d_common_lengths ["rows", "lines"] []
  f_law_cell_at : Addr
  d_law_cell_at : FuncData
  F_law_cell_at : Fun K "_law_cell_at" "_law_cell_at" (topS 14) f_law_cell_at d_law_cell_at
  m_law_cell_at : mg "_law_cell_at" = some (.ref f_law_cell_at)
  b_law_cell_at : Binds K d_law_cell_at ["_law_script", "_law_k"] []
  f_law_mixed : Addr
  d_law_mixed : FuncData
  F_law_mixed : Fun K "_law_mixed" "_law_mixed" (topS 15) f_law_mixed d_law_mixed
  m_law_mixed : mg "_law_mixed" = some (.ref f_law_mixed)
  b_law_mixed : Binds K d_law_mixed ["_law_cell", "_law_k"] []
  f_law_word : Addr
  d_law_word : FuncData
  F_law_word : Fun K "_law_word" "_law_word" (topS 16) f_law_word d_law_word
  m_law_word : mg "_law_word" = some (.ref f_law_word)
  b_law_word : Binds K d_law_word ["_law_number"] []
  f_law_rows : Addr
  d_law_rows : FuncData
  F_law_rows : Fun K "_law_rows" "_law_rows" (topS 19) f_law_rows d_law_rows
  m_law_rows : mg "_law_rows" = some (.ref f_law_rows)
  b_law_rows : Binds K d_law_rows ["_law_text"] []
  f_laid_among : Addr
  d_laid_among : FuncData
  F_laid_among : Fun K "laid_among" "laid_among" (topS 11) f_laid_among d_laid_among
  m_laid_among : mg "laid_among" = some (.ref f_laid_among)
  b_laid_among : Binds K d_laid_among ["rows", "lines", "mask"] []
  f_law_row : Addr
  d_law_row : FuncData
  F_law_row : Fun K "_law_row" "_law_row" (topS 17) f_law_row d_law_row
  m_law_row : mg "_law_row" = some (.ref f_law_row)
  b_law_row : Binds K d_law_row ["_law_number"] []
  f_law_filled : Addr
  d_law_filled : FuncData
  F_law_filled : Fun K "_law_filled" "_law_filled" (topS 18) f_law_filled d_law_filled
  m_law_filled : mg "_law_filled" = some (.ref f_law_filled)
  b_law_filled : Binds K d_law_filled ["_law_rows_here", "_law_cell", "_law_most"] []
  f_joined : Addr
  d_joined : FuncData
  F_joined : Fun K "joined" "joined" (topS 12) f_joined d_joined
  m_joined : mg "joined" = some (.ref f_joined)
  b_joined : Binds K d_joined ["texts", "n"] []
  f_law : Addr
  d_law : FuncData
  F_law : Fun K "law" "law" (topS 20) f_law d_law
  m_law : mg "law" = some (.ref f_law)
  b_law : Binds K d_law ["_law_script"] []
  z_enumerate : mg "enumerate" = none
  z_isinstance : mg "isinstance" = none
  z_len : mg "len" = none
  z_max : mg "max" = none
  z_min : mg "min" = none
  z_range : mg "range" = none
  z_reversed : mg "reversed" = none
  z_str : mg "str" = none
section
variable {P : Program} {w : World} {K : PySem.W.Frag} {mg : Str → Option Value} {base : Heap}
theorem sc_common_lengths : FnScope ["rows", "lines", "found", "i", "j"] ["rows", "lines"] (defScope (topS 10)) := ⟨rfl, rfl, rfl, by decide +kernel, rfl, by decide +kernel, by decide +kernel⟩
theorem ok_common_lengths (T : Tp K mg) : FnOk P w K mg base CX0 1 T.f_common_lengths T.d_common_lengths ["rows", "lines"] (spP K 2 G_common_lengths) := by
  refine T.F_common_lengths.pure sc_common_lengths fun cdv A outer s H E hr => ⟨B_common_lengths, ?_, fun ds _ _ => Pr.le_of rfl⟩
  have hu := hr.units
  exact (xss_cons (xs_setLcP (i := 2) rfl sc_common_lengths.nd rfl rfl (sw_true rfl rfl rfl (by decide +kernel)) (xi_range1 (xe_bin or_addA os_add (xe_callB cr_lenA cs_len T.z_len PySem.boot_len (xa_cons (xe_var 0) xa_nil)) xe_int) T.z_range) (blkOk_by (own := [("i", 3)]) (by show blkC ["rows", "lines", "found", "i", "j"] (defScope (topS 10)) _ _ = true; decide +kernel)) (fun _ _ _ _ _ => (xg_name (i := 3) sc_common_lengths.nd)) (fun _ _ _ _ _ => xts_nil) (fun _ _ _ _ _ => (xe_lcP rfl sc_common_lengths.nd (xi_range1 (xe_bin or_addA os_add (xe_callB cr_lenA cs_len T.z_len PySem.boot_len (xa_cons (xe_var 1) xa_nil)) xe_int) T.z_range) (blkOk_by (own := [("j", 4)]) (by show blkC ["rows", "lines", "found", "i", "j"] (relS _ (defScope (topS 10))) _ _ = true; decide +kernel)) (fun _ _ _ _ _ => (xg_name (i := 4) sc_common_lengths.nd)) (fun _ _ _ _ _ => xts_nil) (fun _ _ _ _ _ => xe_int))))
        (xss_cons (xs_for PassesOwn.never rfl (xi_rev1 (xe_callB cr_lenA cs_len T.z_len PySem.boot_len (xa_cons (xe_var 0) xa_nil)) T.z_range T.z_reversed) (xg_name (i := 3) sc_common_lengths.nd) (xss_one (xs_for PassesOwn.never rfl (xi_rev1 (xe_callB cr_lenA cs_len T.z_len PySem.boot_len (xa_cons (xe_var 1) xa_nil)) T.z_range T.z_reversed) (xg_name (i := 4) sc_common_lengths.nd) (xss_one (xs_if (xt_cmp (or_eqA hu) os_eq (xe_ix ix_seq os_ix (xe_ix ix_seq os_ix (xe_var 0) (xe_var 3)) xe_int) (xe_ix ix_seq os_ix (xe_var 1) (xe_var 4)) (nomark _)) (xss_one (xs_setIx (xe_ix ix_seq os_ix (xe_var 2) (xe_var 3)) (xe_var 4) (xe_bin or_addA os_add (xe_ix ix_seq os_ix (xe_ix ix_seq os_ix (xe_var 2) (xe_bin or_addA os_add (xe_var 3) xe_int)) (xe_bin or_addA os_add (xe_var 4) xe_int)) xe_int))) (xss_one (xs_setIx (xe_ix ix_seq os_ix (xe_var 2) (xe_var 3)) (xe_var 4) (xe_callB (call_max2 rfl) cs_max2 T.z_max (by decide +kernel) (xa_cons (xe_ix ix_seq os_ix (xe_ix ix_seq os_ix (xe_var 2) (xe_bin or_addA os_add (xe_var 3) xe_int)) (xe_var 4)) (xa_cons (xe_ix ix_seq os_ix (xe_ix ix_seq os_ix (xe_var 2) (xe_var 3)) (xe_bin or_addA os_add (xe_var 4) xe_int)) xa_nil))))))))))
        (xss_one (xs_ret (xe_var 2)))))
theorem sc_law_cell_at : FnScope ["_law_script", "_law_k"] ["_law_script", "_law_k"] (defScope (topS 14)) := ⟨rfl, rfl, rfl, by decide +kernel, rfl, by decide +kernel, by decide +kernel⟩
theorem ok_law_cell_at (T : Tp K mg) : FnOk P w K mg base CX0 1 T.f_law_cell_at T.d_law_cell_at ["_law_script", "_law_k"] (spP K 2 G_law_cell_at) := by
  refine T.F_law_cell_at.pure sc_law_cell_at fun cdv A outer s H E hr => ⟨B_law_cell_at, ?_, fun ds _ _ => Pr.le_of rfl⟩
  have hu := hr.units
  exact (xss_cons (xs_if (xt_cmp op_lt os_lt (xe_var 1) (xe_callB cr_lenA cs_len T.z_len PySem.boot_len (xa_cons (xe_var 0) xa_nil)) (nomark _)) (xss_one (xs_ret (xe_ix ix_seq os_ix (xe_var 0) (xe_var 1)))) xss_nil)
        (xss_one (xs_ret xe_int)))
theorem sc_law_mixed : FnScope ["_law_cell", "_law_k", "_law_number"] ["_law_cell", "_law_k"] (defScope (topS 15)) := ⟨rfl, rfl, rfl, by decide +kernel, rfl, by decide +kernel, by decide +kernel⟩
theorem ok_law_mixed (T : Tp K mg) : FnOk P w K mg base CX0 1 T.f_law_mixed T.d_law_mixed ["_law_cell", "_law_k"] (spP K 2 G_law_mixed) := by
  refine T.F_law_mixed.pure sc_law_mixed fun cdv A outer s H E hr => ⟨B_law_mixed, ?_, fun ds _ _ => Pr.le_of rfl⟩
  have hu := hr.units
  exact (xss_cons (xs_set (i := 2) sc_law_mixed.nd (xe_bin op_mod os_mod (xe_bin op_mul os_mul (xe_bin or_addA os_add (xe_bin or_addA os_add (xe_var 0) (xe_bin op_mul os_mul xe_int (xe_var 1))) xe_int) xe_int) xe_int))
        (xss_one (xs_ret (xe_bin op_mod os_mod (xe_bin op_mul os_mul (xe_var 2) (xe_bin or_addA os_add (xe_bin op_fdiv os_div (xe_var 2) xe_int) xe_int)) xe_int))))
theorem sc_law_word : FnScope ["_law_number", "_law_some", "_law_word_here", "_law_k"] ["_law_number"] (defScope (topS 16)) := ⟨rfl, rfl, rfl, by decide +kernel, rfl, by decide +kernel, by decide +kernel⟩
theorem ok_law_word (T : Tp K mg) : FnOk P w K mg base CX0 1 T.f_law_word T.d_law_word ["_law_number"] (spP K 1 G_law_word) := by
  refine T.F_law_word.pure sc_law_word fun cdv A outer s H E hr => ⟨B_law_word, ?_, fun ds _ _ => Pr.le_of rfl⟩
  have hu := hr.units
  exact (xss_cons (xs_set (i := 1) sc_law_word.nd xe_str)
        (xss_cons (xs_set (i := 2) sc_law_word.nd xe_str)
        (xss_cons (xs_for PassesOwn.never rfl (xi_range1 (xe_bin or_addA os_add xe_int (xe_bin op_mod os_mod (xe_var 0) xe_int)) T.z_range) (xg_name (i := 3) sc_law_word.nd) (xss_one (xs_set (i := 2) sc_law_word.nd (xe_bin or_addA os_add (xe_var 2) (xe_ix ix_seq os_ix (xe_var 1) (xe_bin op_mod os_mod (xe_bin op_fdiv os_div (xe_var 0) (xe_bin or_addA os_add xe_int (xe_bin op_mul os_mul xe_int (xe_var 3)))) (xe_callB cr_lenA cs_len T.z_len PySem.boot_len (xa_cons (xe_var 1) xa_nil))))))))
        (xss_one (xs_ret (xe_var 2))))))
theorem sc_law_rows : FnScope ["_law_text", "_law_row_here"] ["_law_text"] (defScope (topS 19)) := ⟨rfl, rfl, rfl, by decide +kernel, rfl, by decide +kernel, by decide +kernel⟩
theorem ok_law_rows (T : Tp K mg) : FnOk P w K mg base CX0 1 T.f_law_rows T.d_law_rows ["_law_text"] (spP K 1 G_law_rows) := by
  refine T.F_law_rows.pure sc_law_rows fun cdv A outer s H E hr => ⟨B_law_rows, ?_, fun ds _ _ => Pr.le_of rfl⟩
  have hu := hr.units
  exact (xss_one (xs_ret (xe_lcF rfl sc_law_rows.nd (xi_list (xe_bm PySem.F.plainAttrs_str PySem.F.slot_str_split PySem.F.type_str_split mt_split ms_split (xe_var 0) (xa_cons xe_str xa_nil))) (blkOk_by (own := [("_law_row_here", 1)]) (by show blkC ["_law_text", "_law_row_here"] (defScope (topS 19)) _ _ = true; decide +kernel)) (fun _ _ _ _ _ => (xg_name (i := 1) sc_law_rows.nd)) (fun _ _ _ _ _ => xts_one (xt_cmp (or_neA hu) os_ne (xe_var 1) xe_str (nomark _))) (fun _ _ _ _ _ => (xe_var 1)))))
theorem sc_laid_among : FnScope ["rows", "lines", "mask", "most", "found", "i", "j"] ["rows", "lines", "mask"] (defScope (topS 11)) := ⟨rfl, rfl, rfl, by decide +kernel, rfl, by decide +kernel, by decide +kernel⟩
theorem ok_laid_among (T : Tp K mg) : FnOk P w K mg base CX0 2 T.f_laid_among T.d_laid_among ["rows", "lines", "mask"] (spP K 3 G_laid_among) := by
  refine T.F_laid_among.pure sc_laid_among fun cdv A outer s H E hr => ⟨B_laid_among, ?_, fun ds _ _ => Pr.le_of rfl⟩
  have hu := hr.units
  exact (xss_cons (xs_set (i := 3) sc_laid_among.nd (xe_call (ok_common_lengths T) (hr.mono (by decide)) T.m_common_lengths T.F_common_lengths.kp T.b_common_lengths pass0 (xa_cons (xe_var 0) (xa_cons (xe_var 1) xa_nil))))
        (xss_cons (xs_set (i := 4) sc_laid_among.nd (xe_lstP xa_nil))
        (xss_cons (xs_set (i := 5) sc_laid_among.nd xe_int)
        (xss_cons (xs_set (i := 6) sc_laid_among.nd xe_int)
        (xss_cons (xs_while 100000 PassesOwn.never (xt_w (xw_or (xt_cmp op_lt os_lt (xe_var 5) (xe_callB cr_lenA cs_len T.z_len PySem.boot_len (xa_cons (xe_var 0) xa_nil)) (nomark _)) (xw_or1 (xt_cmp op_lt os_lt (xe_var 6) (xe_callB cr_lenA cs_len T.z_len PySem.boot_len (xa_cons (xe_var 1) xa_nil)) (nomark _))))) (xss_one (xs_if (xt_w (xw_and (xt_cmp op_lt os_lt (xe_var 5) (xe_callB cr_lenA cs_len T.z_len PySem.boot_len (xa_cons (xe_var 0) xa_nil)) (nomark _)) (xw_and (xt_cmp op_lt os_lt (xe_var 6) (xe_callB cr_lenA cs_len T.z_len PySem.boot_len (xa_cons (xe_var 1) xa_nil)) (nomark _)) (xw_and1 (xt_cmp (or_eqA hu) os_eq (xe_ix ix_seq os_ix (xe_ix ix_seq os_ix (xe_var 0) (xe_var 5)) xe_int) (xe_ix ix_seq os_ix (xe_var 1) (xe_var 6)) (nomark _)))))) (xss_cons (xs_expr (xe_bm PySem.F.plainAttrs_list PySem.F.slot_list_append PySem.F.type_list_append mt_append ms_append (xe_var 4) (xa_cons (xe_tup (xa_cons (xe_ix ix_seq os_ix (xe_var 1) (xe_var 6)) (xa_cons (xe_bin op_or os_or (xe_ix ix_seq os_ix (xe_ix ix_seq os_ix (xe_var 0) (xe_var 5)) xe_int) (xe_var 2)) xa_nil))) xa_nil)))
        (xss_cons (xs_aug (i := 5) sc_laid_among.nd iop_add os_iadd xe_int)
        (xss_one (xs_aug (i := 6) sc_laid_among.nd iop_add os_iadd xe_int)))) (xss_one (xs_if (xt_w (xw_or (xt_cmp (or_eqA hu) os_eq (xe_var 6) (xe_callB cr_lenA cs_len T.z_len PySem.boot_len (xa_cons (xe_var 1) xa_nil)) (nomark _)) (xw_or1 (xt_w (xw_and (xt_cmp op_lt os_lt (xe_var 5) (xe_callB cr_lenA cs_len T.z_len PySem.boot_len (xa_cons (xe_var 0) xa_nil)) (nomark _)) (xw_and1 (xt_cmp op_ge os_ge (xe_ix ix_seq os_ix (xe_ix ix_seq os_ix (xe_var 3) (xe_bin or_addA os_add (xe_var 5) xe_int)) (xe_var 6)) (xe_ix ix_seq os_ix (xe_ix ix_seq os_ix (xe_var 3) (xe_var 5)) (xe_bin or_addA os_add (xe_var 6) xe_int)) (nomark _)))))))) (xss_cons (xs_expr (xe_bm PySem.F.plainAttrs_list PySem.F.slot_list_append PySem.F.type_list_append mt_append ms_append (xe_var 4) (xa_cons (xe_ix ix_seq os_ix (xe_var 0) (xe_var 5)) xa_nil)))
        (xss_one (xs_aug (i := 5) sc_laid_among.nd iop_add os_iadd xe_int))) (xss_cons (xs_expr (xe_bm PySem.F.plainAttrs_list PySem.F.slot_list_append PySem.F.type_list_append mt_append ms_append (xe_var 4) (xa_cons (xe_tup (xa_cons (xe_ix ix_seq os_ix (xe_var 1) (xe_var 6)) (xa_cons (xe_var 2) xa_nil))) xa_nil)))
        (xss_one (xs_aug (i := 6) sc_laid_among.nd iop_add os_iadd xe_int))))))))
        (xss_one (xs_ret (xe_var 4))))))))
theorem sc_law_row : FnScope ["_law_number", "_law_k"] ["_law_number"] (defScope (topS 17)) := ⟨rfl, rfl, rfl, by decide +kernel, rfl, by decide +kernel, by decide +kernel⟩
theorem ok_law_row (T : Tp K mg) : FnOk P w K mg base CX0 2 T.f_law_row T.d_law_row ["_law_number"] (spP K 1 G_law_row) := by
  refine T.F_law_row.pure sc_law_row fun cdv A outer s H E hr => ⟨B_law_row, ?_, fun ds _ _ => Pr.le_of rfl⟩
  have hu := hr.units
  exact (xss_one (xs_ret (xe_bm PySem.F.plainAttrs_str PySem.F.slot_str_join PySem.F.type_str_join mr_join ms_join xe_str (xa_cons (xe_lcF rfl sc_law_row.nd (xi_range1 (xe_bin or_addA os_add xe_int (xe_bin op_mod os_mod (xe_var 0) xe_int)) T.z_range) (blkOk_by (own := [("_law_k", 1)]) (by show blkC ["_law_number", "_law_k"] (defScope (topS 17)) _ _ = true; decide +kernel)) (fun _ _ _ _ _ => (xg_name (i := 1) sc_law_row.nd)) (fun _ _ _ _ _ => xts_nil) (fun _ _ _ _ _ => (xe_call (ok_law_word T) (hr.mono (by decide)) T.m_law_word T.F_law_word.kp T.b_law_word pass0 (xa_cons (xe_call (ok_law_mixed T) (hr.mono (by decide)) T.m_law_mixed T.F_law_mixed.kp T.b_law_mixed pass0 (xa_cons (xe_var 0) (xa_cons (xe_var 1) xa_nil))) xa_nil)))) xa_nil))))
theorem sc_law_filled : FnScope ["_law_rows_here", "_law_cell", "_law_most", "_law_found", "_law_k"] ["_law_rows_here", "_law_cell", "_law_most"] (defScope (topS 18)) := ⟨rfl, rfl, rfl, by decide +kernel, rfl, by decide +kernel, by decide +kernel⟩
theorem ok_law_filled (T : Tp K mg) : FnOk P w K mg base CX0 2 T.f_law_filled T.d_law_filled ["_law_rows_here", "_law_cell", "_law_most"] (spP K 3 G_law_filled) := by
  refine T.F_law_filled.pure sc_law_filled fun cdv A outer s H E hr => ⟨B_law_filled, ?_, fun ds _ _ => Pr.le_of rfl⟩
  have hu := hr.units
  exact (xss_cons (xs_set (i := 3) sc_law_filled.nd (xe_lstP xa_nil))
        (xss_cons (xs_for PassesOwn.never rfl (xi_range1 (xe_callB cr_lenA cs_len T.z_len PySem.boot_len (xa_cons (xe_var 0) xa_nil)) T.z_range) (xg_name (i := 4) sc_law_filled.nd) (xss_cons (xs_if (xt_w (xw_and (xt_cmp (or_eqA hu) os_eq (xe_bin op_mod os_mod (xe_call (ok_law_mixed T) (hr.mono (by decide)) T.m_law_mixed T.F_law_mixed.kp T.b_law_mixed pass0 (xa_cons (xe_var 1) (xa_cons (xe_var 4) xa_nil))) xe_int) xe_int (nomark _)) (xw_and1 (xt_cmp op_gt os_gt (xe_var 2) xe_int (nomark _))))) (xss_cons (xs_expr (xe_bm PySem.F.plainAttrs_list PySem.F.slot_list_append PySem.F.type_list_append mt_append ms_append (xe_var 3) (xa_cons xe_str xa_nil)))
        (xss_one (xs_set (i := 2) sc_law_filled.nd (xe_bin op_sub os_sub (xe_var 2) xe_int)))) xss_nil)
        (xss_one (xs_expr (xe_bm PySem.F.plainAttrs_list PySem.F.slot_list_append PySem.F.type_list_append mt_append ms_append (xe_var 3) (xa_cons (xe_ix ix_seq os_ix (xe_var 0) (xe_var 4)) xa_nil))))))
        (xss_one (xs_ret (xe_var 3)))))
theorem sc_joined : FnScope ["texts", "n", "rows", "whole", "lines", "i", "text", "line", "mask"] ["texts", "n"] (defScope (topS 12)) := ⟨rfl, rfl, rfl, by decide +kernel, rfl, by decide +kernel, by decide +kernel⟩
theorem ok_joined (T : Tp K mg) : FnOk P w K mg base CX0 3 T.f_joined T.d_joined ["texts", "n"] (spP K 2 G_joined) := by
  refine T.F_joined.pure sc_joined fun cdv A outer s H E hr => ⟨B_joined, ?_, fun ds _ _ => Pr.le_of rfl⟩
  have hu := hr.units
  exact (xss_cons (xs_set (i := 2) sc_joined.nd (xe_lstF xa_nil))
        (xss_cons (xs_for PassesOwn.never rfl (xi_enum (xe_var 0) T.z_enumerate) (xg_tup rfl (xgs_cons (xg_name (i := 5) sc_joined.nd) (xgs_cons (xg_name (i := 6) sc_joined.nd) xgs_nil))) (xss_one (xs_set (i := 2) sc_joined.nd (xe_call (ok_laid_among T) (hr.mono (by decide)) T.m_laid_among T.F_laid_among.kp T.b_laid_among pass0 (xa_cons (xe_var 2) (xa_cons (xe_lcF rfl sc_joined.nd (xi_list (xe_bm PySem.F.plainAttrs_str PySem.F.slot_str_split PySem.F.type_str_split mt_split ms_split (xe_var 6) (xa_cons xe_str xa_nil))) (blkOk_by (own := [("line", 7)]) (by show blkC ["texts", "n", "rows", "whole", "lines", "i", "text", "line", "mask"] (defScope (topS 12)) _ _ = true; decide +kernel)) (fun _ _ _ _ _ => (xg_name (i := 7) sc_joined.nd)) (fun _ _ _ _ _ => xts_one (xt_cmp (or_neA hu) os_ne (xe_var 7) xe_str (nomark _))) (fun _ _ _ _ _ => (xe_var 7))) (xa_cons (xe_bin op_shl os_shl xe_int (xe_var 5)) xa_nil)))))))
        (xss_cons (xs_set (i := 3) sc_joined.nd (xe_bin op_sub os_sub (xe_bin op_shl os_shl xe_int (xe_callB cr_lenA cs_len T.z_len PySem.boot_len (xa_cons (xe_var 0) xa_nil))) xe_int))
        (xss_cons (xs_set (i := 4) sc_joined.nd (xe_lstP xa_nil))
        (xss_cons (xs_for PassesOwn.never rfl (xi_list (xe_var 2)) (xg_tup rfl (xgs_cons (xg_name (i := 7) sc_joined.nd) (xgs_cons (xg_name (i := 8) sc_joined.nd) xgs_nil))) (xss_one (xs_if (xt_cmp (or_eqA hu) os_eq (xe_var 8) (xe_var 3) (nomark _)) (xss_one (xs_expr (xe_bm PySem.F.plainAttrs_list PySem.F.slot_list_append PySem.F.type_list_append mt_append ms_append (xe_var 4) (xa_cons (xe_var 7) xa_nil)))) (xss_one (xs_expr (xe_bm PySem.F.plainAttrs_list PySem.F.slot_list_append PySem.F.type_list_append mt_append ms_append (xe_var 4) (xa_cons (xe_bin or_addA os_add (xe_bin or_addA os_add (xe_bin or_addA os_add (xe_bin or_addA os_add xe_str xe_fail) xe_str) (xe_var 7)) xe_str) xa_nil)))))))
        (xss_one (xs_ret (xe_bm PySem.F.plainAttrs_str PySem.F.slot_str_join PySem.F.type_str_join mr_join ms_join xe_str (xa_cons (xe_var 4) xa_nil)))))))))
theorem sc_law : FnScope ["_law_script", "_law_rows_here", "_law_cell", "_law_many_texts", "_law_n", "_law_room", "_law_texts", "_law_k", "_law_found", "_law_word_here"] ["_law_script"] (defScope (topS 20)) := ⟨rfl, rfl, rfl, by decide +kernel, rfl, by decide +kernel, by decide +kernel⟩
theorem ok_law (T : Tp K mg) : FnOk P w K mg base CX0 4 T.f_law T.d_law ["_law_script"] (spP K 1 G_law) := by
  refine T.F_law.pure sc_law fun cdv A outer s H E hr => ⟨B_law, ?_, fun ds _ _ => Pr.le_of rfl⟩
  have hu := hr.units
  exact (xss_cons (xs_set (i := 1) sc_law.nd (xe_lstP xa_nil))
        (xss_cons (xs_for PassesOwn.never rfl (xi_list (xe_sl (xe_var 0) (xo_some xe_int) (xo_some xe_int))) (xg_name (i := 2) sc_law.nd) (xss_one (xs_if (xt_w (xw_and (xt_cmp (or_eqA hu) os_eq (xe_bin op_mod os_mod (xe_var 2) xe_int) xe_int (nomark _)) (xw_and1 (xt_cmp (or_neA hu) os_ne (xe_var 1) (xe_lstF xa_nil) (nomark _))))) (xss_one (xs_expr (xe_bm PySem.F.plainAttrs_list PySem.F.slot_list_append PySem.F.type_list_append mt_append ms_append (xe_var 1) (xa_cons (xe_ix ix_seq os_ix (xe_var 1) (xe_bin op_mod os_mod (xe_bin op_fdiv os_div (xe_var 2) xe_int) (xe_callB cr_lenA cs_len T.z_len PySem.boot_len (xa_cons (xe_var 1) xa_nil)))) xa_nil)))) (xss_one (xs_expr (xe_bm PySem.F.plainAttrs_list PySem.F.slot_list_append PySem.F.type_list_append mt_append ms_append (xe_var 1) (xa_cons (xe_call (ok_law_row T) (hr.mono (by decide)) T.m_law_row T.F_law_row.kp T.b_law_row pass0 (xa_cons (xe_call (ok_law_mixed T) (hr.mono (by decide)) T.m_law_mixed T.F_law_mixed.kp T.b_law_mixed pass0 (xa_cons (xe_var 2) (xa_cons xe_int xa_nil))) xa_nil)) xa_nil)))))))
        (xss_cons (xs_frz 1 (xs_set (i := 3) sc_law.nd (xe_bin or_addA os_add xe_int (xe_bin op_mod os_mod (xe_call (ok_law_cell_at T) (hr.mono (by decide)) T.m_law_cell_at T.F_law_cell_at.kp T.b_law_cell_at pass0 (xa_cons (xe_var 0) (xa_cons xe_int xa_nil))) xe_int))))
        (xss_cons (xs_while 100 PassesOwn.never (xt_cmp op_gt os_gt (xe_bin op_mul os_mul (xe_var 3) (xe_bin or_addA os_add (xe_callB cr_lenA cs_len T.z_len PySem.boot_len (xa_cons (xe_var 1) xa_nil)) xe_int)) xe_int (nomark _)) (xss_one (xs_set (i := 3) sc_law.nd (xe_bin op_sub os_sub (xe_var 3) xe_int))))
        (xss_tok (i := 4) sc_law.nd
        (xsst_cons (xs_while 100 PassesOwn.never (xt_cmp op_lt os_lt (xe_bin op_shl os_shl xe_int (xe_var 4)) (xe_var 3) (nomark _)) (xss_one (xs_set (i := 4) sc_law.nd (xe_bin or_addA os_add (xe_var 4) xe_int))))
        (xsst_cons (xs_set (i := 4) sc_law.nd (xe_callB (call_min2 rfl) cs_min2 T.z_min (by decide +kernel) (xa_cons xe_int (xa_cons (xe_bin or_addA os_add (xe_var 4) (xe_bin op_mod os_mod (xe_call (ok_law_cell_at T) (hr.mono (by decide)) T.m_law_cell_at T.F_law_cell_at.kp T.b_law_cell_at pass0 (xa_cons (xe_var 0) (xa_cons xe_int xa_nil))) xe_int)) xa_nil))))
        (xsst_cons (xs_set (i := 5) sc_law.nd (xe_bin op_sub os_sub (xe_bin op_fdiv os_div xe_int (xe_var 3)) (xe_callB cr_lenA cs_len T.z_len PySem.boot_len (xa_cons (xe_var 1) xa_nil))))
        (xsst_cons (xs_set (i := 6) sc_law.nd (xe_lstP xa_nil))
        (xsst_cons (xs_for PassesOwn.never rfl (xi_range1 (xe_var 3) T.z_range) (xg_name (i := 7) sc_law.nd) (xss_one (xs_expr (xe_bm PySem.F.plainAttrs_list PySem.F.slot_list_append PySem.F.type_list_append mt_append ms_append (xe_var 6) (xa_cons (xe_bm PySem.F.plainAttrs_str PySem.F.slot_str_join PySem.F.type_str_join mr_join ms_join xe_str (xa_cons (xe_call (ok_law_filled T) (hr.mono (by decide)) T.m_law_filled T.F_law_filled.kp T.b_law_filled pass0 (xa_cons (xe_var 1) (xa_cons (xe_bin or_addA os_add (xe_call (ok_law_cell_at T) (hr.mono (by decide)) T.m_law_cell_at T.F_law_cell_at.kp T.b_law_cell_at pass0 (xa_cons (xe_var 0) (xa_cons xe_int xa_nil))) (xe_var 7)) (xa_cons (xe_var 5) xa_nil)))) xa_nil)) xa_nil)))))
        (xsst_cons (xs_frz 6 (xs_set (i := 8) sc_law.nd (xe_call (ok_joined T) (hr.mono (by decide)) T.m_joined T.F_joined.kp T.b_joined pass0 (xa_cons (xe_var 6) (xa_cons (xe_var 4) xa_nil)))))
        (xsst_cons (xs_if (xt_not (xt_val (xe_isi (n := "str") (xe_var 8) T.z_isinstance T.z_str (by decide +kernel)))) (xss_one (xs_ret xe_bl)) xss_nil)
        (xsst_consT (xst_for PassesOwn.never rfl (xit_list (xet_split (xet_repl (xe_var 8)) xe_str)) (xg_name (i := 9) sc_law.nd) (xss_one (xs_if (xt_w (xw_or (xt_val (xe_bm PySem.F.plainAttrs_str PySem.F.slot_str_startswith PySem.F.type_str_startswith mt_startswith ms_starts (xe_var 9) (xa_cons xe_str xa_nil))) (xw_or1 (xt_cmp (or_eqA hu) os_eq (xe_var 9) xe_str (nomark _))))) (xss_one (xs_ret xe_bl)) xss_nil)))
        (xsst_of (xss_one (xs_ret (xe_cmp (or_eqA hu) os_eq (xe_call (ok_law_rows T) (hr.mono (by decide)) T.m_law_rows T.F_law_rows.kp T.b_law_rows pass0 (xa_cons (xe_var 8) xa_nil)) (xe_var 1) (nomark _))))))))))))))))))
end
def spLaw (K : PySem.W.Frag) : Sp := fun vs H Q _ => ∃ (a : Addr) (ns : List Int), vs = [.ref a] ∧ SqL K H a (ns.map V.int) ∧ ns.length ≤ 63 ∧ ∀ H', Q (.bl true) H'
theorem all_mk {l : PySem.W.OpenLaw} {w : World} {K : PySem.W.Frag} {h : Heap} {mg : Str → Option Value} {fa : Addr} (X : K.In h) (G : h.Ns mainGlobals mg) (hfa : mg "law" = some (.ref fa))
    {od1 an1 : Option Addr} {sl1 : Array (Option Value)} {oc1 kV1 dc1 pm1 cd1 ct1 : Value} {f1 : Addr}
    {od2 an2 : Option Addr} {sl2 : Array (Option Value)} {oc2 kV2 dc2 pm2 cd2 ct2 : Value} {f2 : Addr}
    {od3 an3 : Option Addr} {sl3 : Array (Option Value)} {oc3 kV3 dc3 pm3 cd3 ct3 : Value} {f3 : Addr}
    {od4 an4 : Option Addr} {sl4 : Array (Option Value)} {oc4 kV4 dc4 pm4 cd4 ct4 : Value} {f4 : Addr}
    {od5 an5 : Option Addr} {sl5 : Array (Option Value)} {oc5 kV5 dc5 pm5 cd5 ct5 : Value} {f5 : Addr}
    {od6 an6 : Option Addr} {sl6 : Array (Option Value)} {oc6 kV6 dc6 pm6 cd6 ct6 : Value} {f6 : Addr}
    {od7 an7 : Option Addr} {sl7 : Array (Option Value)} {oc7 kV7 dc7 pm7 cd7 ct7 : Value} {f7 : Addr}
    {od8 an8 : Option Addr} {sl8 : Array (Option Value)} {oc8 kV8 dc8 pm8 cd8 ct8 : Value} {f8 : Addr}
    {od9 an9 : Option Addr} {sl9 : Array (Option Value)} {oc9 kV9 dc9 pm9 cd9 ct9 : Value} {f9 : Addr}
    {od10 an10 : Option Addr} {sl10 : Array (Option Value)} {oc10 kV10 dc10 pm10 cd10 ct10 : Value} {f10 : Addr}
    (a1 : PySem.W.nsIn K mainGlobals "common_lengths" = some (some (.ref f1))) (l1 : K.lookup f1 = some ⟨oc1, od1, .func (PySem.W.fnOf "common_lengths" "common_lengths" (defArgs (topS 10)) (defBody (topS 10)) (defScope (topS 10)) .none kV1 dc1 pm1 an1 cd1 ct1), sl1⟩) (c1 : PySem.W.codeIn K cd1 "common_lengths" = true) (k1 : PySem.W.keepIn K (.ref f1) = true)
    (a2 : PySem.W.nsIn K mainGlobals "_law_cell_at" = some (some (.ref f2))) (l2 : K.lookup f2 = some ⟨oc2, od2, .func (PySem.W.fnOf "_law_cell_at" "_law_cell_at" (defArgs (topS 14)) (defBody (topS 14)) (defScope (topS 14)) .none kV2 dc2 pm2 an2 cd2 ct2), sl2⟩) (c2 : PySem.W.codeIn K cd2 "_law_cell_at" = true) (k2 : PySem.W.keepIn K (.ref f2) = true)
    (a3 : PySem.W.nsIn K mainGlobals "_law_mixed" = some (some (.ref f3))) (l3 : K.lookup f3 = some ⟨oc3, od3, .func (PySem.W.fnOf "_law_mixed" "_law_mixed" (defArgs (topS 15)) (defBody (topS 15)) (defScope (topS 15)) .none kV3 dc3 pm3 an3 cd3 ct3), sl3⟩) (c3 : PySem.W.codeIn K cd3 "_law_mixed" = true) (k3 : PySem.W.keepIn K (.ref f3) = true)
    (a4 : PySem.W.nsIn K mainGlobals "_law_word" = some (some (.ref f4))) (l4 : K.lookup f4 = some ⟨oc4, od4, .func (PySem.W.fnOf "_law_word" "_law_word" (defArgs (topS 16)) (defBody (topS 16)) (defScope (topS 16)) .none kV4 dc4 pm4 an4 cd4 ct4), sl4⟩) (c4 : PySem.W.codeIn K cd4 "_law_word" = true) (k4 : PySem.W.keepIn K (.ref f4) = true)
    (a5 : PySem.W.nsIn K mainGlobals "_law_rows" = some (some (.ref f5))) (l5 : K.lookup f5 = some ⟨oc5, od5, .func (PySem.W.fnOf "_law_rows" "_law_rows" (defArgs (topS 19)) (defBody (topS 19)) (defScope (topS 19)) .none kV5 dc5 pm5 an5 cd5 ct5), sl5⟩) (c5 : PySem.W.codeIn K cd5 "_law_rows" = true) (k5 : PySem.W.keepIn K (.ref f5) = true)
    (a6 : PySem.W.nsIn K mainGlobals "laid_among" = some (some (.ref f6))) (l6 : K.lookup f6 = some ⟨oc6, od6, .func (PySem.W.fnOf "laid_among" "laid_among" (defArgs (topS 11)) (defBody (topS 11)) (defScope (topS 11)) .none kV6 dc6 pm6 an6 cd6 ct6), sl6⟩) (c6 : PySem.W.codeIn K cd6 "laid_among" = true) (k6 : PySem.W.keepIn K (.ref f6) = true)
    (a7 : PySem.W.nsIn K mainGlobals "_law_row" = some (some (.ref f7))) (l7 : K.lookup f7 = some ⟨oc7, od7, .func (PySem.W.fnOf "_law_row" "_law_row" (defArgs (topS 17)) (defBody (topS 17)) (defScope (topS 17)) .none kV7 dc7 pm7 an7 cd7 ct7), sl7⟩) (c7 : PySem.W.codeIn K cd7 "_law_row" = true) (k7 : PySem.W.keepIn K (.ref f7) = true)
    (a8 : PySem.W.nsIn K mainGlobals "_law_filled" = some (some (.ref f8))) (l8 : K.lookup f8 = some ⟨oc8, od8, .func (PySem.W.fnOf "_law_filled" "_law_filled" (defArgs (topS 18)) (defBody (topS 18)) (defScope (topS 18)) .none kV8 dc8 pm8 an8 cd8 ct8), sl8⟩) (c8 : PySem.W.codeIn K cd8 "_law_filled" = true) (k8 : PySem.W.keepIn K (.ref f8) = true)
    (a9 : PySem.W.nsIn K mainGlobals "joined" = some (some (.ref f9))) (l9 : K.lookup f9 = some ⟨oc9, od9, .func (PySem.W.fnOf "joined" "joined" (defArgs (topS 12)) (defBody (topS 12)) (defScope (topS 12)) .none kV9 dc9 pm9 an9 cd9 ct9), sl9⟩) (c9 : PySem.W.codeIn K cd9 "joined" = true) (k9 : PySem.W.keepIn K (.ref f9) = true)
    (a10 : PySem.W.nsIn K mainGlobals "law" = some (some (.ref f10))) (l10 : K.lookup f10 = some ⟨oc10, od10, .func (PySem.W.fnOf "law" "law" (defArgs (topS 20)) (defBody (topS 20)) (defScope (topS 20)) .none kV10 dc10 pm10 an10 cd10 ct10), sl10⟩) (c10 : PySem.W.codeIn K cd10 "law" = true) (k10 : PySem.W.keepIn K (.ref f10) = true)
    (z_enumerate : PySem.W.nsIn K mainGlobals "enumerate" = some none)
    (z_isinstance : PySem.W.nsIn K mainGlobals "isinstance" = some none)
    (z_len : PySem.W.nsIn K mainGlobals "len" = some none)
    (z_max : PySem.W.nsIn K mainGlobals "max" = some none)
    (z_min : PySem.W.nsIn K mainGlobals "min" = some none)
    (z_range : PySem.W.nsIn K mainGlobals "range" = some none)
    (z_reversed : PySem.W.nsIn K mainGlobals "reversed" = some none)
    (z_str : PySem.W.nsIn K mainGlobals "str" = some none) :
    ∃ fd : FuncData, (∀ (s : Shared) (v : Value), BindsTo s fd ⟨[v], []⟩ [("_law_script", v)]) ∧ ∀ base : Heap, K.In base → base.Ns mainGlobals mg → FnOk l.prog w K mg base CX0 4 fa fd ["_law_script"] (spLaw K) := by
  have e := hfa.symm.trans (PySem.W.mg_of X G a10)
  cases e
  let T : Tp K mg := ⟨_,
    _,
    fun_mk (st := topS 10) l1 c1 k1,
    PySem.W.mg_of X G a1,
    (fun_mk (st := topS 10) l1 c1 k1).binds (ps := ["rows", "lines"]) fun _ _ _ _ _ _ us hl => match us, hl with | [_, _], _ => rfl,
    _,
    _,
    fun_mk (st := topS 14) l2 c2 k2,
    PySem.W.mg_of X G a2,
    (fun_mk (st := topS 14) l2 c2 k2).binds (ps := ["_law_script", "_law_k"]) fun _ _ _ _ _ _ us hl => match us, hl with | [_, _], _ => rfl,
    _,
    _,
    fun_mk (st := topS 15) l3 c3 k3,
    PySem.W.mg_of X G a3,
    (fun_mk (st := topS 15) l3 c3 k3).binds (ps := ["_law_cell", "_law_k"]) fun _ _ _ _ _ _ us hl => match us, hl with | [_, _], _ => rfl,
    _,
    _,
    fun_mk (st := topS 16) l4 c4 k4,
    PySem.W.mg_of X G a4,
    (fun_mk (st := topS 16) l4 c4 k4).binds (ps := ["_law_number"]) fun _ _ _ _ _ _ us hl => match us, hl with | [_], _ => rfl,
    _,
    _,
    fun_mk (st := topS 19) l5 c5 k5,
    PySem.W.mg_of X G a5,
    (fun_mk (st := topS 19) l5 c5 k5).binds (ps := ["_law_text"]) fun _ _ _ _ _ _ us hl => match us, hl with | [_], _ => rfl,
    _,
    _,
    fun_mk (st := topS 11) l6 c6 k6,
    PySem.W.mg_of X G a6,
    (fun_mk (st := topS 11) l6 c6 k6).binds (ps := ["rows", "lines", "mask"]) fun _ _ _ _ _ _ us hl => match us, hl with | [_, _, _], _ => rfl,
    _,
    _,
    fun_mk (st := topS 17) l7 c7 k7,
    PySem.W.mg_of X G a7,
    (fun_mk (st := topS 17) l7 c7 k7).binds (ps := ["_law_number"]) fun _ _ _ _ _ _ us hl => match us, hl with | [_], _ => rfl,
    _,
    _,
    fun_mk (st := topS 18) l8 c8 k8,
    PySem.W.mg_of X G a8,
    (fun_mk (st := topS 18) l8 c8 k8).binds (ps := ["_law_rows_here", "_law_cell", "_law_most"]) fun _ _ _ _ _ _ us hl => match us, hl with | [_, _, _], _ => rfl,
    _,
    _,
    fun_mk (st := topS 12) l9 c9 k9,
    PySem.W.mg_of X G a9,
    (fun_mk (st := topS 12) l9 c9 k9).binds (ps := ["texts", "n"]) fun _ _ _ _ _ _ us hl => match us, hl with | [_, _], _ => rfl,
    _,
    _,
    fun_mk (st := topS 20) l10 c10 k10,
    PySem.W.mg_of X G a10,
    (fun_mk (st := topS 20) l10 c10 k10).binds (ps := ["_law_script"]) fun _ _ _ _ _ _ us hl => match us, hl with | [_], _ => rfl,
    PySem.W.mg_none_of X G z_enumerate,
    PySem.W.mg_none_of X G z_isinstance,
    PySem.W.mg_none_of X G z_len,
    PySem.W.mg_none_of X G z_max,
    PySem.W.mg_none_of X G z_min,
    PySem.W.mg_none_of X G z_range,
    PySem.W.mg_none_of X G z_reversed,
    PySem.W.mg_none_of X G z_str⟩
  exact ⟨T.d_law, fun s v => .of_eq rfl, fun base _ _ => law_of (ok_law T) law_true⟩
end MM.Law

open PySem PySem.W PyProof.Rows
set_option maxRecDepth 100000 in
set_option maxHeartbeats 0 in
theorem PySem.Challenge.cw_manymakes_k72_joined_alike_holds : PySem.Challenge.rw_manymakes_k72_joined_alike.Holds := by
  w_on; o_law; k_head; (case hw => w_witness2)
  k_fill
  refine L2.walk_of (l := PySem.Challenge.rw_manymakes_k72_joined_alike) (n := 63) (k := 4) (x := "_law_script") (CX := fun _ => L2.CX0) (sp := fun w => MM.Law.spLaw _) rfl (by decide) rfl ⟨rfl, by decide, by decide⟩ (fun w h Y => PySem.W.kIn_of Y) ?F (fun _ _ a ns hl _ hS => ⟨a, ns, rfl, hS, hl, fun _ => rfl⟩) (fun _ _ _ _ _ h => h)
  case F =>
    intro w mg fa h KX G hmg
    refine' MM.Law.all_mk KX G hmg ?a1 ?l1 ?c1 ?k1 ?a2 ?l2 ?c2 ?k2 ?a3 ?l3 ?c3 ?k3 ?a4 ?l4 ?c4 ?k4 ?a5 ?l5 ?c5 ?k5 ?a6 ?l6 ?c6 ?k6 ?a7 ?l7 ?c7 ?k7 ?a8 ?l8 ?c8 ?k8 ?a9 ?l9 ?c9 ?k9 ?a10 ?l10 ?c10 ?k10 ?z_enumerate ?z_isinstance ?z_len ?z_max ?z_min ?z_range ?z_reversed ?z_str
    (case a1 => k_is)
    (case l1 => k_is)
    (case c1 => k_is)
    (case k1 => k_is)
    (case a2 => k_is)
    (case l2 => k_is)
    (case c2 => k_is)
    (case k2 => k_is)
    (case a3 => k_is)
    (case l3 => k_is)
    (case c3 => k_is)
    (case k3 => k_is)
    (case a4 => k_is)
    (case l4 => k_is)
    (case c4 => k_is)
    (case k4 => k_is)
    (case a5 => k_is)
    (case l5 => k_is)
    (case c5 => k_is)
    (case k5 => k_is)
    (case a6 => k_is)
    (case l6 => k_is)
    (case c6 => k_is)
    (case k6 => k_is)
    (case a7 => k_is)
    (case l7 => k_is)
    (case c7 => k_is)
    (case k7 => k_is)
    (case a8 => k_is)
    (case l8 => k_is)
    (case c8 => k_is)
    (case k8 => k_is)
    (case a9 => k_is)
    (case l9 => k_is)
    (case c9 => k_is)
    (case k9 => k_is)
    (case a10 => k_is)
    (case l10 => k_is)
    (case c10 => k_is)
    (case k10 => k_is)
    (case z_enumerate => k_is)
    (case z_isinstance => k_is)
    (case z_len => k_is)
    (case z_max => k_is)
    (case z_min => k_is)
    (case z_range => k_is)
    (case z_reversed => k_is)
    (case z_str => k_is)

