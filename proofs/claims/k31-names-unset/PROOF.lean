import PyProof.Rows.All
import Wide.All
import OpenK.AllK
import Wide.FinOn
import HandS.ForMost
import HandS.IsInst
import HandS.RevRange
import HandS.ReplaceLit
import HandS.ReplaceList
import KE.KDictKeyed
import HandS.TupAny
import HandS.Deep
import HandS.WideBits
import KE.SortData
import KE.KDictCopyH
import HandS.More
import PySem.Challenge.RW_manymakes_k31_names_unset
set_option Elab.async false
set_option linter.all false
set_option maxRecDepth 100000
set_option maxHeartbeats 4000000
/-! MMa: data without a heap (D), a small memory of the things that change (Mem), and how both stand in the layer's abstract heap. -/
namespace MM
open PySem PySem.Spec PyProof.Rows L2

inductive D where
  | non | bl (b : Bool) | int (i : Int) | str (x : Str) | tup (l : List D) | lst (l : List D) | scr (l : List D) | ptr (k : Nat)
noncomputable instance : DecidableEq D := fun a b => Classical.propDecidable (a = b)
instance : Inhabited D := ⟨.non⟩

section
variable (K : PySem.W.Frag) (Fz : Hp) (ι : Nat → Addr)
mutual
def RepV : D → V → Prop
  | .non, v => v = .non
  | .bl b, v => v = .bl b
  | .int i, v => v = .int i
  | .str x, v => v = .str x
  | .tup l, v => ∃ a vs, v = .ref a ∧ SqT K Fz a vs ∧ RepL l vs
  | .lst l, v => ∃ a vs, v = .ref a ∧ Fz a = some (.lst vs) ∧ RepL l vs
  | .scr l, v => ∃ a vs, v = .ref a ∧ SqL K Fz a vs ∧ RepL l vs
  | .ptr k, v => v = .ref (ι k)
def RepL : List D → List V → Prop
  | [], vs => vs = []
  | d :: l, vs => ∃ v r, vs = v :: r ∧ RepV d v ∧ RepL l r
end
/-- pairs: a key and its value -/
def RepP {κ : Type} : List (κ × D) → List (κ × V) → Prop
  | [], vs => vs = []
  | (k, d) :: l, vs => ∃ v r, vs = (k, v) :: r ∧ RepV K Fz ι d v ∧ RepP l r
end
mutual
def bnd (n : Nat) : D → Prop
  | .tup l => bndL n l
  | .lst l => bndL n l
  | .scr l => bndL n l
  | .ptr k => k < n
  | _ => True
def bndL (n : Nat) : List D → Prop
  | [] => True
  | d :: l => bnd n d ∧ bndL n l
end
def bndP {κ : Type} (n : Nat) (l : List (κ × D)) : Prop := bndL n (l.map (·.2))

/-- what changes -/
inductive MO where
  | lst (l : List D)
  | dct (l : List (D × D))
  | dcl (l : List (D × D))
  | ins (C : Addr) (fs : List (Str × D))
  | gone
noncomputable instance : DecidableEq MO := fun a b => Classical.propDecidable (a = b)
abbrev Mem := List MO
def MO.bnd (n : Nat) : MO → Prop
  | .lst l => bndL n l
  | .dct l => bndP n l
  | .dcl l => bndP n l
  | .ins _ fs => bndP n fs
  | .gone => True
/-- a dict at a: its entries (the key up to ==, the key, what is there) -/
def DctO (wd : World) (a : Addr) (es : List (NestedKey × V × V)) : HO := .ext fun h => es.length ≤ sizeLine ∧ (a == sysModules) = false ∧
  ∃ o ds ep, h.get? a = some o ∧ o.ExactDict ∧ o.data = .dict ds ep ∧ Paired (fun (e : NestedKey × V × V) (d : DictEntry) => d.hash = e.1.hash wd ∧ RelV e.2.1 d.key ∧ RelV e.2.2 d.val) es ds.toList
mutual
/-- a key -/
def keyOf : D → Option NestedKey
  | .non => some .none
  | .int i => some (.num i)
  | .str x => some (.text x)
  | .tup l => (keysOf l).map .tup
  | _ => none
def keysOf : List D → Option (List NestedKey)
  | [] => some []
  | d :: l => (keyOf d).bind fun k => (keysOf l).map fun r => k :: r
end
/-- entries as data -/
def RepE (K : PySem.W.Frag) (Fz : Hp) (ι : Nat → Addr) : List (D × D) → List (NestedKey × V × V) → Prop
  | [], es => es = []
  | (k, d) :: l, es => ∃ nk x y r, es = (nk, x, y) :: r ∧ keyOf k = some nk ∧ nk.depth ≤ 8 ∧ RepV K Fz ι k x ∧ RepV K Fz ι d y ∧ RepE K Fz ι l r
/-- how a changing thing stands in the heap -/
def ObM (K : PySem.W.Frag) (wd : World) (Fz H : Hp) (ι : Nat → Addr) (a : Addr) : MO → Prop
  | .lst l => Fz a = none ∧ ∃ vs, H a = some (.lst vs) ∧ RepL K Fz ι l vs
  | .dct l => Fz a = none ∧ ∃ es, H a = some (DctO wd a es) ∧ RepE K Fz ι l es ∧ (es.map (·.1)).Nodup
  | .dcl l => Fz a = none ∧ ∃ o es, H a = some (.frz o (DctO wd a es)) ∧ RepE K Fz ι l es ∧ (es.map (·.1)).Nodup
  | .ins C l => Fz a = none ∧ ∃ dx vs, H a = some (.ins C dx vs) ∧ RepP K Fz ι l vs
  | .gone => True
structure Rel (K : PySem.W.Frag) (wd : World) (Fz H : Hp) (ι : Nat → Addr) (M : Mem) : Prop where
  fz : ∀ a o, Fz a = some o → H a = some o
  ob : ∀ (k : Nat) (mo : MO), M[k]? = some mo → ObM K wd Fz H ι (ι k) mo
  wf : ∀ (k : Nat) (mo : MO), M[k]? = some mo → mo.bnd M.length
  occ : ∀ k, k < M.length → H (ι k) ≠ none
  inj : ∀ i j, i < M.length → j < M.length → ι i = ι j → i = j
/-- from one state to a later one -/
structure Grow (Fz H : Hp) (ι : Nat → Addr) (n : Nat) (Fz' H' : Hp) (ι' : Nat → Addr) (n' : Nat) : Prop where
  fz : ∀ a o, Fz a = some o → Fz' a = some o
  io : ∀ k, k < n → ι' k = ι k
  le : n ≤ n'
  new : ∀ k, n ≤ k → k < n' → H (ι' k) = none
  fr : ∀ a o, H a = some o → (∀ k, k < n → ι k ≠ a) → H' a = some o
  th : ∀ a, H a ≠ none → H' a ≠ none
  fn : ∀ a, Fz' a ≠ none → Fz a ≠ none ∨ H a = none ∨ ∃ k, k < n ∧ ι k = a

theorem Grow.refl (Fz H : Hp) (ι : Nat → Addr) (n : Nat) : Grow Fz H ι n Fz H ι n :=
  ⟨fun _ _ h => h, fun _ _ => rfl, Nat.le_refl _, fun k h1 h2 => absurd h2 (by omega), fun _ _ h _ => h, fun _ h => h, fun _ h => .inl h⟩
theorem Grow.trans {F0 H0 : Hp} {i0 : Nat → Addr} {n0 : Nat} {F1 H1 : Hp} {i1 : Nat → Addr} {n1 : Nat} {F2 H2 : Hp} {i2 : Nat → Addr} {n2 : Nat}
    (a : Grow F0 H0 i0 n0 F1 H1 i1 n1) (b : Grow F1 H1 i1 n1 F2 H2 i2 n2) : Grow F0 H0 i0 n0 F2 H2 i2 n2 where
  fz := fun x o h => b.fz x o (a.fz x o h)
  io := fun k h => (b.io k (Nat.lt_of_lt_of_le h a.le)).trans (a.io k h)
  le := Nat.le_trans a.le b.le
  new := fun k h1 h2 => by
    by_cases h : k < n1
    · rw [b.io k h]; exact a.new k h1 h
    · have q := b.new k (Nat.le_of_not_lt h) h2
      cases e : H0 (i2 k) with
      | none => rfl
      | some o => exact absurd q (a.th _ (by rw [e]; exact fun z => by cases z))
  fr := fun x o h hk => by
    refine b.fr x o (a.fr x o h hk) fun k hk1 e => ?_
    by_cases hn : k < n0
    · exact hk k hn ((a.io k hn).symm.trans e)
    · have q := a.new k (Nat.le_of_not_lt hn) hk1
      rw [e, h] at q; cases q
  th := fun x h => b.th x (a.th x h)
  fn := fun x h => by
    rcases b.fn x h with q | q | ⟨k, hk, e⟩
    · exact a.fn x q
    · refine .inr (.inl ?_)
      cases e : H0 x with
      | none => rfl
      | some o => exact absurd q (a.th _ (by rw [e]; exact fun z => by cases z))
    · by_cases hn : k < n0
      · exact .inr (.inr ⟨k, hn, (a.io k hn).symm.trans e⟩)
      · exact .inr (.inl (by rw [← e]; exact a.new k (Nat.le_of_not_lt hn) hk))

section
variable {K : PySem.W.Frag} {wd : World} {Fz Fz' H H' : Hp} {ι ι' : Nat → Addr} {n n' : Nat}
theorem Rd.up {a : Addr} {u : HO} (h : ∀ a o, Fz a = some o → Fz' a = some o) (r : Rd Fz a u) : Rd Fz' a u := by
  rcases r with r | ⟨o, r⟩
  · exact .inl (h _ _ r)
  · exact .inr ⟨o, h _ _ r⟩
theorem SqT.up {a : Addr} {vs : List V} (h : ∀ a o, Fz a = some o → Fz' a = some o) (r : SqT K Fz a vs) : SqT K Fz' a vs := by
  rcases r with r | r
  · exact .inl (Rd.up h r)
  · exact .inr r
theorem SqL.up {a : Addr} {vs : List V} (h : ∀ a o, Fz a = some o → Fz' a = some o) (r : SqL K Fz a vs) : SqL K Fz' a vs := by
  rcases r with r | r
  · exact .inl (Rd.up h r)
  · exact .inr r
mutual
theorem RepV.up (h : ∀ a o, Fz a = some o → Fz' a = some o) (hi : ∀ k, k < n → ι' k = ι k) : ∀ (d : D) (v : V), bnd n d → RepV K Fz ι d v → RepV K Fz' ι' d v
  | .non, _, _, r => r
  | .bl _, _, _, r => r
  | .int _, _, _, r => r
  | .str _, _, _, r => r
  | .tup l, _, b, r => by
    obtain ⟨a, vs, e, s, q⟩ := r
    exact ⟨a, vs, e, SqT.up h s, RepL.up h hi l vs b q⟩
  | .lst l, _, b, r => by
    obtain ⟨a, vs, e, s, q⟩ := r
    exact ⟨a, vs, e, h _ _ s, RepL.up h hi l vs b q⟩
  | .scr l, _, b, r => by
    obtain ⟨a, vs, e, s, q⟩ := r
    exact ⟨a, vs, e, SqL.up h s, RepL.up h hi l vs b q⟩
  | .ptr k, _, b, r => by
    show _ = V.ref (ι' k)
    rw [hi k b]
    exact r
theorem RepL.up (h : ∀ a o, Fz a = some o → Fz' a = some o) (hi : ∀ k, k < n → ι' k = ι k) : ∀ (l : List D) (vs : List V), bndL n l → RepL K Fz ι l vs → RepL K Fz' ι' l vs
  | [], _, _, r => r
  | d :: l, _, b, r => by
    obtain ⟨v, r', e, q, q'⟩ := r
    exact ⟨v, r', e, RepV.up h hi d v b.1 q, RepL.up h hi l r' b.2 q'⟩
end
theorem RepP.up {κ : Type} (h : ∀ a o, Fz a = some o → Fz' a = some o) (hi : ∀ k, k < n → ι' k = ι k) : ∀ (l : List (κ × D)) (vs : List (κ × V)), bndP n l → RepP K Fz ι l vs → RepP K Fz' ι' l vs
  | [], _, _, r => r
  | (k, d) :: l, _, b, r => by
    obtain ⟨v, r', e, q, q'⟩ := r
    exact ⟨v, r', e, RepV.up h hi d v b.1 q, RepP.up h hi l r' b.2 q'⟩
mutual
theorem bnd.up (h : n ≤ n') : ∀ d : D, bnd n d → bnd n' d
  | .non, _ => trivial
  | .bl _, _ => trivial
  | .int _, _ => trivial
  | .str _, _ => trivial
  | .tup l, b => bndL.up h l b
  | .lst l, b => bndL.up h l b
  | .scr l, b => bndL.up h l b
  | .ptr _, b => Nat.lt_of_lt_of_le b h
theorem bndL.up (h : n ≤ n') : ∀ l : List D, bndL n l → bndL n' l
  | [], _ => trivial
  | d :: l, b => ⟨bnd.up h d b.1, bndL.up h l b.2⟩
end
mutual
theorem key_bnd : ∀ (d : D) (k : NestedKey), keyOf d = some k → bnd n d
  | .non, _, _ => trivial
  | .bl _, _, _ => trivial
  | .int _, _, _ => trivial
  | .str _, _, _ => trivial
  | .tup l, k, e => by
    rw [keyOf] at e
    cases h : keysOf l with
    | none => rw [h] at e; cases e
    | some r => exact keys_bnd l r h
  | .lst _, _, e => by rw [keyOf] at e <;> first | (cases e; done) | (intros; exact fun z => nomatch z)
  | .scr _, _, e => by rw [keyOf] at e <;> first | (cases e; done) | (intros; exact fun z => nomatch z)
  | .ptr _, _, e => by rw [keyOf] at e <;> first | (cases e; done) | (intros; exact fun z => nomatch z)
theorem keys_bnd : ∀ (l : List D) (k : List NestedKey), keysOf l = some k → bndL n l
  | [], _, _ => trivial
  | d :: l, k, e => by
    rw [keysOf] at e
    cases h : keyOf d with
    | none => rw [h] at e; cases e
    | some x =>
      rw [h] at e
      cases h2 : keysOf l with
      | none => rw [h2] at e; cases e
      | some r => exact ⟨key_bnd d x h, keys_bnd l r h2⟩
end
theorem RepE.up (h : ∀ a o, Fz a = some o → Fz' a = some o) (hi : ∀ k, k < n → ι' k = ι k) : ∀ (l : List (D × D)) (es : List (NestedKey × V × V)), bndP n l → RepE K Fz ι l es → RepE K Fz' ι' l es
  | [], _, _, r => r
  | (k, d) :: l, _, b, r => by
    obtain ⟨nk, x, y, r', e, e1, e2, q1, q2, q3⟩ := r
    exact ⟨nk, x, y, r', e, e1, e2, RepV.up h hi k x (key_bnd k nk e1) q1, RepV.up h hi d y b.1 q2, RepE.up h hi l r' b.2 q3⟩
theorem MO.bnd.up (h : n ≤ n') : ∀ m : MO, m.bnd n → m.bnd n'
  | .lst l, b => bndL.up h l b
  | .dct l, b => bndL.up h _ b
  | .dcl l, b => bndL.up h _ b
  | .ins _ l, b => bndL.up h _ b
  | .gone, _ => trivial
theorem bndL_get : ∀ {l : List D} {i : Nat} {d : D}, bndL n l → l[i]? = some d → bnd n d
  | [], _, _, _, e => by simp at e
  | d :: l, 0, _, b, e => by
    have e : d = _ := Option.some.inj e
    exact e ▸ b.1
  | d :: l, i + 1, _, b, e => bndL_get b.2 (by simpa using e)
theorem bndL_iff {l : List D} : bndL n l ↔ ∀ d ∈ l, bnd n d := by
  induction l with
  | nil => exact ⟨fun _ d h => absurd h (by simp), fun _ => trivial⟩
  | cons d l ih =>
    refine ⟨fun h e he => ?_, fun h => ⟨h d (by simp), ih.mpr fun e he => h e (by simp [he])⟩⟩
    rcases List.mem_cons.mp he with rfl | he
    · exact h.1
    · exact ih.mp h.2 e he
theorem bndL_append {l m : List D} : bndL n (l ++ m) ↔ bndL n l ∧ bndL n m := by
  simp only [bndL_iff, List.mem_append]
  exact ⟨fun h => ⟨fun d hd => h d (.inl hd), fun d hd => h d (.inr hd)⟩, fun h d hd => hd.elim (h.1 d) (h.2 d)⟩
theorem bndL_set {l : List D} {i : Nat} {d : D} (b : bndL n l) (h : bnd n d) : bndL n (l.set i d) := by
  rw [bndL_iff] at b ⊢
  intro e he
  rcases List.mem_or_eq_of_mem_set he with q | q
  · exact b e q
  · exact q ▸ h
theorem RepL.len : ∀ {l : List D} {vs : List V}, RepL K Fz ι l vs → l.length = vs.length
  | [], _, r => by
    have r : _ = [] := r
    subst r
    rfl
  | d :: l, _, r => by
    obtain ⟨v, r', e, _, q⟩ := r
    rw [e, List.length_cons, List.length_cons, RepL.len q]
theorem RepL.get : ∀ {l : List D} {vs : List V} {i : Nat} {d : D}, RepL K Fz ι l vs → l[i]? = some d → ∃ v, vs[i]? = some v ∧ RepV K Fz ι d v
  | [], _, _, _, _, e => by simp at e
  | d :: l, _, 0, _, r, e => by
    obtain ⟨v, r', e', q, _⟩ := r
    have e : d = _ := Option.some.inj e
    subst e e'
    exact ⟨v, rfl, q⟩
  | d :: l, _, i + 1, _, r, e => by
    obtain ⟨v, r', e', _, q⟩ := r
    subst e'
    exact RepL.get (i := i) q (by simpa using e)
theorem RepL.append : ∀ {l m : List D} {vs ws : List V}, RepL K Fz ι l vs → RepL K Fz ι m ws → RepL K Fz ι (l ++ m) (vs ++ ws)
  | [], _, _, _, r, s => by
    have r : _ = [] := r
    rw [r]
    exact s
  | d :: l, _, _, _, r, s => by
    obtain ⟨v, r', e', q, q'⟩ := r
    subst e'
    exact ⟨v, _, rfl, q, RepL.append q' s⟩
theorem RepL.set : ∀ {l : List D} {vs : List V} {d : D} {v : V} (i : Nat), RepL K Fz ι l vs → RepV K Fz ι d v → RepL K Fz ι (l.set i d) (vs.set i v)
  | [], _, _, _, _, r, _ => by
    have r : _ = [] := r
    rw [r]
    rfl
  | d :: l, _, _, _, 0, r, s => by
    obtain ⟨v, r', e', q, q'⟩ := r
    subst e'
    exact ⟨_, _, rfl, s, q'⟩
  | d :: l, _, _, _, i + 1, r, s => by
    obtain ⟨v, r', e', q, q'⟩ := r
    subst e'
    exact ⟨_, _, rfl, q, RepL.set i q' s⟩
theorem RepL.take : ∀ {l : List D} {vs : List V} (i : Nat), RepL K Fz ι l vs → RepL K Fz ι (l.take i) (vs.take i)
  | _, _, 0, _ => rfl
  | [], _, i + 1, r => by
    have r : _ = [] := r
    rw [r]
    rfl
  | d :: l, _, i + 1, r => by
    obtain ⟨v, r', e', q, q'⟩ := r
    subst e'
    exact ⟨_, _, rfl, q, RepL.take i q'⟩
theorem RepL.drop : ∀ {l : List D} {vs : List V} (i : Nat), RepL K Fz ι l vs → RepL K Fz ι (l.drop i) (vs.drop i)
  | _, _, 0, r => r
  | [], _, i + 1, r => by
    have r : _ = [] := r
    rw [r]
    rfl
  | d :: l, _, i + 1, r => by
    obtain ⟨v, r', e', q, q'⟩ := r
    subst e'
    exact RepL.drop i q'
theorem RepL.reverse : ∀ {l : List D} {vs : List V}, RepL K Fz ι l vs → RepL K Fz ι l.reverse vs.reverse
  | [], _, r => by
    have r : _ = [] := r
    rw [r]
    rfl
  | d :: l, _, r => by
    obtain ⟨v, r', e', q, q'⟩ := r
    subst e'
    rw [List.reverse_cons, List.reverse_cons]
    exact RepL.append (RepL.reverse q') ⟨v, [], rfl, q, rfl⟩
theorem RepL.strs : ∀ {l : List Str} {vs : List V}, RepL K Fz ι (l.map D.str) vs → vs = l.map V.str
  | [], _, r => r
  | x :: l, _, r => by
    obtain ⟨v, r', e', q, q'⟩ := r
    have q : v = .str x := q
    subst e' q
    rw [RepL.strs (l := l) q']
    rfl
theorem RepL.of_strs (K : PySem.W.Frag) (Fz : Hp) (ι : Nat → Addr) : ∀ l : List Str, RepL K Fz ι (l.map D.str) (l.map V.str)
  | [] => rfl
  | x :: l => ⟨_, _, rfl, rfl, RepL.of_strs K Fz ι l⟩
theorem RepL.of_ints (K : PySem.W.Frag) (Fz : Hp) (ι : Nat → Addr) : ∀ l : List Int, RepL K Fz ι (l.map D.int) (l.map V.int)
  | [] => rfl
  | x :: l => ⟨_, _, rfl, rfl, RepL.of_ints K Fz ι l⟩
theorem RepL.nil_iff {vs : List V} : RepL K Fz ι [] vs ↔ vs = [] := Iff.rfl
theorem bndL_strs : ∀ l : List Str, bndL n (l.map D.str)
  | [] => trivial
  | _ :: l => ⟨trivial, bndL_strs l⟩
theorem bndL_ints : ∀ l : List Int, bndL n (l.map D.int)
  | [] => trivial
  | _ :: l => ⟨trivial, bndL_ints l⟩
end

section
variable {K : PySem.W.Frag} {wd : World} {Fz Fz' H H' : Hp} {ι ι' : Nat → Addr} {n n' : Nat} {M : Mem}
theorem Grow.rep (g : Grow Fz H ι n Fz' H' ι' n') {d : D} {v : V} (b : bnd n d) (r : RepV K Fz ι d v) : RepV K Fz' ι' d v := RepV.up g.fz g.io d v b r
theorem Grow.repL (g : Grow Fz H ι n Fz' H' ι' n') {l : List D} {vs : List V} (b : bndL n l) (r : RepL K Fz ι l vs) : RepL K Fz' ι' l vs := RepL.up g.fz g.io l vs b r
theorem Rel.fresh (R : Rel K wd Fz H ι M) {p : Addr} (h : H p = none) : Fz p = none ∧ ∀ k, k < M.length → ι k ≠ p := by
  refine ⟨?_, fun k hk e => R.occ k hk (by rw [e]; exact h)⟩
  cases e : Fz p with
  | none => rfl
  | some o =>
    have q := R.fz _ _ e
    rw [h] at q
    cases q
/-- a new thing that stands for good -/
theorem Rel.laid (R : Rel K wd Fz H ι M) {p : Addr} {o : HO} (h : H p = none) : Rel K wd (upd Fz p o) (upd H p o) ι M ∧ Grow Fz H ι M.length (upd Fz p o) (upd H p o) ι M.length := by
  obtain ⟨hf, hi⟩ := R.fresh h
  have g : Grow Fz H ι M.length (upd Fz p o) (upd H p o) ι M.length :=
    ⟨fun a u e => by rw [upd_ne (ne_of_none e hf)]; exact e, fun _ _ => rfl, Nat.le_refl _, fun k h1 h2 => absurd h2 (by omega),
      fun a u e _ => by rw [upd_ne (ne_of_none e h)]; exact e, fun a e => by
        unfold upd; split
        · exact fun z => by cases z
        · exact e, fun a e => by
        by_cases q : a = p
        · exact .inr (.inl (q ▸ h))
        · rw [upd_ne q] at e; exact .inl e⟩
  refine ⟨⟨fun a u e => ?_, fun k mo e => ?_, R.wf, fun k hk => g.th _ (R.occ k hk), R.inj⟩, g⟩
  · by_cases q : a = p
    · subst q; rw [upd_same] at e ⊢; exact e
    · rw [upd_ne q] at e ⊢; exact R.fz a u e
  · have hk : k < M.length := (List.getElem?_eq_some_iff.mp e).1
    have ob := R.ob k mo e
    have wf := R.wf k mo e
    have ne := hi k hk
    cases mo with
    | lst l =>
      obtain ⟨q0, vs, q1, q2⟩ := ob
      exact ⟨by rw [upd_ne ne]; exact q0, vs, by rw [upd_ne ne]; exact q1, RepL.up g.fz g.io _ _ wf q2⟩
    | dct l =>
      obtain ⟨q0, vs, q1, q2, q3⟩ := ob
      exact ⟨by rw [upd_ne ne]; exact q0, vs, by rw [upd_ne ne]; exact q1, RepE.up g.fz g.io _ _ wf q2, q3⟩
    | dcl l =>
      obtain ⟨q0, o, vs, q1, q2, q3⟩ := ob
      exact ⟨by rw [upd_ne ne]; exact q0, o, vs, by rw [upd_ne ne]; exact q1, RepE.up g.fz g.io _ _ wf q2, q3⟩
    | ins C l =>
      obtain ⟨q0, dx, vs, q1, q2⟩ := ob
      exact ⟨by rw [upd_ne ne]; exact q0, dx, vs, by rw [upd_ne ne]; exact q1, RepP.up g.fz g.io _ _ wf q2⟩
    | gone => trivial
/-- the addresses with one more -/
def ext (ι : Nat → Addr) (n : Nat) (p : Addr) : Nat → Addr := fun k => if k = n then p else ι k
theorem ext_same {p : Addr} : ext ι n p n = p := by unfold ext; rw [if_pos rfl]
theorem ext_lt {p : Addr} {k : Nat} (h : k < n) : ext ι n p k = ι k := by unfold ext; rw [if_neg (Nat.ne_of_lt h)]
theorem ObM.keep {M : Mem} (R : Rel K wd Fz H ι M) {k : Nat} {mo : MO} {m : Nat} (e : M[k]? = some mo) (hF : ∀ a o, Fz a = some o → Fz' a = some o) (hF0 : Fz' (ι k) = Fz (ι k)) (hi : ∀ j, j < M.length → ι' j = ι j) (hH : H' (ι k) = H (ι k)) : ObM K wd Fz' H' ι' (ι' k) mo := by
  have hk : k < M.length := (List.getElem?_eq_some_iff.mp e).1
  have ob := R.ob k mo e
  have wf := R.wf k mo e
  rw [hi k hk]
  cases mo with
  | lst l =>
    obtain ⟨q0, vs, q1, q2⟩ := ob
    exact ⟨hF0.trans q0, vs, hH.trans q1, RepL.up hF hi _ _ wf q2⟩
  | dct l =>
    obtain ⟨q0, vs, q1, q2, q3⟩ := ob
    exact ⟨hF0.trans q0, vs, hH.trans q1, RepE.up hF hi _ _ wf q2, q3⟩
  | dcl l =>
    obtain ⟨q0, o, vs, q1, q2, q3⟩ := ob
    exact ⟨hF0.trans q0, o, vs, hH.trans q1, RepE.up hF hi _ _ wf q2, q3⟩
  | ins C l =>
    obtain ⟨q0, dx, vs, q1, q2⟩ := ob
    exact ⟨hF0.trans q0, dx, vs, hH.trans q1, RepP.up hF hi _ _ wf q2⟩
  | gone => trivial
/-- a new thing that may change: the memory's last -/
theorem Rel.alloc (R : Rel K wd Fz H ι M) {p : Addr} {o : HO} {mo : MO} (h : H p = none) (b : mo.bnd M.length) (q : ∀ H' ι', H' p = some o → (∀ j, j < M.length → ι' j = ι j) → Fz p = none → ObM K wd Fz H' ι' p mo) :
    Rel K wd Fz (upd H p o) (ext ι M.length p) (M ++ [mo]) ∧ Grow Fz H ι M.length Fz (upd H p o) (ext ι M.length p) (M ++ [mo]).length := by
  obtain ⟨hf, hi⟩ := R.fresh h
  have hl : (M ++ [mo]).length = M.length + 1 := by simp
  have io : ∀ j, j < M.length → ext ι M.length p j = ι j := fun j hj => ext_lt hj
  have th : ∀ a, H a ≠ none → upd H p o a ≠ none := fun a e => by
    unfold upd; split
    · exact fun z => by cases z
    · exact e
  refine ⟨⟨fun a u e => ?_, fun k m e => ?_, fun k m e => ?_, fun k hk => ?_, fun i j hi' hj' e => ?_⟩, ⟨fun _ _ e => e, io, by omega, fun k h1 h2 => ?_, fun a u e _ => by rw [upd_ne (ne_of_none e h)]; exact e, th, fun a e => .inl e⟩⟩
  · rw [upd_ne (ne_of_none e hf)]; exact R.fz a u e
  · by_cases hk : k < M.length
    · rw [List.getElem?_append_left hk] at e
      exact ObM.keep (m := 0) R e (fun _ _ e => e) rfl io (upd_ne (hi k hk))
    · have hk2 : k < (M ++ [mo]).length := (List.getElem?_eq_some_iff.mp e).1
      have : k = M.length := by omega
      subst this
      rw [List.getElem?_append_right (Nat.le_refl _), Nat.sub_self] at e
      have e : mo = m := Option.some.inj e
      subst e
      rw [ext_same]
      exact q _ _ upd_same io hf
  · rw [hl]
    by_cases hk : k < M.length
    · rw [List.getElem?_append_left hk] at e
      exact MO.bnd.up (Nat.le_succ _) m (R.wf k m e)
    · have hk2 : k < (M ++ [mo]).length := (List.getElem?_eq_some_iff.mp e).1
      have : k = M.length := by omega
      subst this
      rw [List.getElem?_append_right (Nat.le_refl _), Nat.sub_self] at e
      have e : mo = m := Option.some.inj e
      subst e
      exact MO.bnd.up (Nat.le_succ _) mo b
  · rw [hl] at hk
    by_cases hk2 : k < M.length
    · rw [io k hk2]; exact th _ (R.occ k hk2)
    · have : k = M.length := by omega
      subst this
      rw [ext_same, upd_same]; exact fun z => by cases z
  · rw [hl] at hi' hj'
    by_cases h1 : i < M.length
    · by_cases h2 : j < M.length
      · rw [io i h1, io j h2] at e; exact R.inj i j h1 h2 e
      · have : j = M.length := by omega
        subst this
        rw [ext_same, io i h1] at e
        exact absurd e (hi i h1)
    · have : i = M.length := by omega
      subst this
      by_cases h2 : j < M.length
      · rw [ext_same, io j h2] at e
        exact absurd e.symm (hi j h2)
      · omega
  · have : k = M.length := by omega
    subst this
    rw [ext_same]; exact h
/-- a changing thing is changed -/
theorem Rel.write (R : Rel K wd Fz H ι M) {k : Nat} {o : HO} {mo : MO} (hk : k < M.length) (hf : Fz (ι k) = none) (b : mo.bnd M.length) (q : ObM K wd Fz (upd H (ι k) o) ι (ι k) mo) :
    Rel K wd Fz (upd H (ι k) o) ι (M.set k mo) ∧ Grow Fz H ι M.length Fz (upd H (ι k) o) ι (M.set k mo).length := by
  have hl : (M.set k mo).length = M.length := by simp
  have th : ∀ a, H a ≠ none → upd H (ι k) o a ≠ none := fun a e => by
    unfold upd; split
    · exact fun z => by cases z
    · exact e
  refine ⟨⟨fun a u e => ?_, fun j m e => ?_, fun j m e => ?_, fun j hj => th _ (R.occ j (by omega)), fun i j hi hj e => R.inj i j (by omega) (by omega) e⟩,
    ⟨fun _ _ e => e, fun _ _ => rfl, by omega, fun j h1 h2 => by omega, fun a u e hne => by rw [upd_ne (Ne.symm (hne k hk))]; exact e, th, fun a e => .inl e⟩⟩
  · rw [upd_ne (ne_of_none e hf)]; exact R.fz a u e
  · have hj : j < M.length := by
      have := (List.getElem?_eq_some_iff.mp e).1
      omega
    by_cases hjk : j = k
    · subst hjk
      rw [List.getElem?_set_self hk] at e
      have e : mo = m := Option.some.inj e
      subst e
      exact q
    · rw [List.getElem?_set_ne (Ne.symm hjk)] at e
      exact ObM.keep (m := 0) R e (fun _ _ e => e) rfl (fun _ _ => rfl) (upd_ne fun z => hjk (R.inj _ _ hj hk z))
  · rw [hl]
    by_cases hjk : j = k
    · subst hjk
      rw [List.getElem?_set_self hk] at e
      have e : mo = m := Option.some.inj e
      subst e
      exact b
    · rw [List.getElem?_set_ne (Ne.symm hjk)] at e
      exact R.wf j m e
end
end MM

/-! MMb: the functions that a body's syntax is read as (EF, BF, AF, SF), what their answers promise (Post), and the judgements XE, XT, XA, XS, XSs. -/
namespace MM
open PySem PySem.Spec PyProof.Rows L2

structure Exc where
  cls : Addr
  fs : List (Str × D)
inductive Fl (α : Type) where
  | ok (a : α) (M : Mem)
  | exc (e : Exc) (M : Mem)
  | fail
def Fl.bind {α β : Type} (r : Fl α) (k : α → Mem → Fl β) : Fl β :=
  match r with
  | .ok a M => k a M
  | .exc e M => .exc e M
  | .fail => .fail
@[simp] theorem Fl.bind_ok {α β : Type} (a : α) (M : Mem) (k : α → Mem → Fl β) : (Fl.ok a M).bind k = k a M := rfl
@[simp] theorem Fl.bind_exc {α β : Type} (e : Exc) (M : Mem) (k : α → Mem → Fl β) : (Fl.exc (α := α) e M).bind k = .exc e M := rfl
@[simp] theorem Fl.bind_fail {α β : Type} (k : α → Mem → Fl β) : (Fl.fail (α := α)).bind k = .fail := rfl

abbrev Ro := List (Option D)
abbrev EF := Ro → Mem → Fl D
abbrev BF := Ro → Mem → Fl Bool
abbrev AF := Ro → Mem → Fl (List D)
inductive Fw where
  | nx (ρ : Ro) | rt (d : D) | bk (ρ : Ro) | ct (ρ : Ro)
abbrev SF := Ro → Mem → Fl Fw

structure Sim (K : PySem.W.Frag) (wd : World) (Fz H : Hp) (ι : Nat → Addr) (M : Mem) (ρ : Ro) (σ : L2.St) : Prop where
  rel : Rel K wd Fz H ι M
  len : ρ.length = σ.length
  slot : ∀ (i : Nat) (d : D), ρ[i]? = some (some d) → bnd M.length d ∧ ∃ v, σ[i]? = some (some v) ∧ RepV K Fz ι d v

def RepX (K : PySem.W.Frag) (Fz H : Hp) (ι : Nat → Addr) (e : Exc) (cls : Value) (dx : Option Addr) : Prop :=
  cls = .ref e.cls ∧ match dx with
    | none => e.fs = []
    | some d => ∃ vs, H d = some (.xd vs) ∧ RepP K Fz ι e.fs vs

section
variable (K : PySem.W.Frag) (wd : World) (E : XK)
def Post {α β : Type} (Fz H : Hp) (ι : Nat → Addr) (n : Nat) (R : Hp → (Nat → Addr) → Nat → α → β → Prop) (Q : β → Hp → Prop) : Fl α → Prop
  | .ok a M' => ∀ Fz' H' ι' b, Grow Fz H ι n Fz' H' ι' M'.length → Rel K wd Fz' H' ι' M' → R Fz' ι' M'.length a b → Q b H'
  | .exc e M' => ∀ Fz' H' ι' cls dx, Grow Fz H ι n Fz' H' ι' M'.length → Rel K wd Fz' H' ι' M' → RepX K Fz' H' ι' e cls dx → E cls dx H'
  | .fail => False
def RD : Hp → (Nat → Addr) → Nat → D → V → Prop := fun Fz ι n d v => bnd n d ∧ RepV K Fz ι d v
def RLs : Hp → (Nat → Addr) → Nat → List D → List V → Prop := fun Fz ι n d v => bndL n d ∧ RepL K Fz ι d v
def RB : Hp → (Nat → Addr) → Nat → Bool → Bool → Prop := fun _ _ _ b c => c = b
def PostS (Fz H : Hp) (ι : Nat → Addr) (n : Nat) (D : Ends) : Fl Fw → Prop
  | .ok (.nx ρ') M' => ∀ Fz' H' ι' σ', Grow Fz H ι n Fz' H' ι' M'.length → Sim K wd Fz' H' ι' M' ρ' σ' → D.nx σ' H'
  | .ok (.bk ρ') M' => ∀ Fz' H' ι' σ', Grow Fz H ι n Fz' H' ι' M'.length → Sim K wd Fz' H' ι' M' ρ' σ' → D.bk σ' H'
  | .ok (.ct ρ') M' => ∀ Fz' H' ι' σ', Grow Fz H ι n Fz' H' ι' M'.length → Sim K wd Fz' H' ι' M' ρ' σ' → D.ct σ' H'
  | .ok (.rt d) M' => ∀ Fz' H' ι' v, Grow Fz H ι n Fz' H' ι' M'.length → Rel K wd Fz' H' ι' M' → bnd M'.length d → RepV K Fz' ι' d v → D.rt v H'
  | .exc e M' => ∀ Fz' H' ι' cls dx, Grow Fz H ι n Fz' H' ι' M'.length → Rel K wd Fz' H' ι' M' → RepX K Fz' H' ι' e cls dx → E cls dx H'
  | .fail => False
/-- the readings that are these functions -/
def wE (f : EF) : TE := fun σ H Q => ∃ Fz ι M ρ, Sim K wd Fz H ι M ρ σ ∧ Post K wd E Fz H ι M.length (RD K) Q (f ρ M)
def wA (f : AF) : TA := fun σ H Q => ∃ Fz ι M ρ, Sim K wd Fz H ι M ρ σ ∧ Post K wd E Fz H ι M.length (RLs K) Q (f ρ M)
def wB (f : BF) : TT := fun σ H Q => ∃ Fz ι M ρ, Sim K wd Fz H ι M ρ σ ∧ Post K wd E Fz H ι M.length RB Q (f ρ M)
def wS (f : SF) : TS := fun D σ H => ∃ Fz ι M ρ, Sim K wd Fz H ι M ρ σ ∧ PostS K wd E Fz H ι M.length D (f ρ M)
end
section
variable {K : PySem.W.Frag} {wd : World} {E : XK} {Fz H Fz' H' : Hp} {ι ι' : Nat → Addr} {n n' : Nat} {M M' : Mem} {ρ : Ro} {σ : L2.St}
theorem Post.grow {α β : Type} {R : Hp → (Nat → Addr) → Nat → α → β → Prop} {Q : β → Hp → Prop} (g : Grow Fz H ι n Fz' H' ι' n') : ∀ {r : Fl α}, Post K wd E Fz H ι n R Q r → Post K wd E Fz' H' ι' n' R Q r
  | .ok a M', h => fun Fz2 H2 ι2 b g2 rel q => h Fz2 H2 ι2 b (g.trans g2) rel q
  | .exc e M', h => fun Fz2 H2 ι2 c dx g2 rel q => h Fz2 H2 ι2 c dx (g.trans g2) rel q
  | .fail, h => h
theorem PostS.grow {D : Ends} (g : Grow Fz H ι n Fz' H' ι' n') : ∀ {r : Fl Fw}, PostS K wd E Fz H ι n D r → PostS K wd E Fz' H' ι' n' D r
  | .ok (.nx _) M', h => fun Fz2 H2 ι2 b g2 q => h Fz2 H2 ι2 b (g.trans g2) q
  | .ok (.bk _) M', h => fun Fz2 H2 ι2 b g2 q => h Fz2 H2 ι2 b (g.trans g2) q
  | .ok (.ct _) M', h => fun Fz2 H2 ι2 b g2 q => h Fz2 H2 ι2 b (g.trans g2) q
  | .ok (.rt _) M', h => fun Fz2 H2 ι2 b g2 rel q r => h Fz2 H2 ι2 b (g.trans g2) rel q r
  | .exc e M', h => fun Fz2 H2 ι2 c dx g2 rel q => h Fz2 H2 ι2 c dx (g.trans g2) rel q
  | .fail, h => h
theorem Sim.grow (S : Sim K wd Fz H ι M ρ σ) (g : Grow Fz H ι M.length Fz' H' ι' M'.length) (R : Rel K wd Fz' H' ι' M') : Sim K wd Fz' H' ι' M' ρ σ :=
  ⟨R, S.len, fun i d e => by
    obtain ⟨b, v, e', r⟩ := S.slot i d e
    exact ⟨bnd.up g.le d b, v, e', g.rep b r⟩⟩
/-- what is known now -/
theorem Post.now {α β : Type} {R : Hp → (Nat → Addr) → Nat → α → β → Prop} {Q : β → Hp → Prop} {a : α} {b : β} (h : Post K wd E Fz H ι M.length R Q (.ok a M)) (S : Rel K wd Fz H ι M) (r : R Fz ι M.length a b) : Q b H :=
  h Fz H ι b (Grow.refl _ _ _ _) S r
/-- one behind another: the first one's wish -/
theorem Post.first {α β γ δ : Type} {R1 : Hp → (Nat → Addr) → Nat → α → β → Prop} {Q1 : β → Hp → Prop} {R2 : Hp → (Nat → Addr) → Nat → γ → δ → Prop} {Q2 : δ → Hp → Prop} {k : α → Mem → Fl γ} :
    ∀ {r : Fl α}, Post K wd E Fz H ι n R2 Q2 (r.bind k) →
    (∀ a M1 Fz1 H1 ι1 b, Grow Fz H ι n Fz1 H1 ι1 M1.length → Rel K wd Fz1 H1 ι1 M1 → R1 Fz1 ι1 M1.length a b → Post K wd E Fz1 H1 ι1 M1.length R2 Q2 (k a M1) → Q1 b H1) → Post K wd E Fz H ι n R1 Q1 r
  | .ok a M1, h, hk => fun Fz1 H1 ι1 b g rel q => hk a M1 Fz1 H1 ι1 b g rel q (Post.grow g h)
  | .exc e M1, h, _ => h
  | .fail, h, _ => h
theorem PostS.first {α β : Type} {R1 : Hp → (Nat → Addr) → Nat → α → β → Prop} {Q1 : β → Hp → Prop} {D : Ends} {k : α → Mem → Fl Fw} :
    ∀ {r : Fl α}, PostS K wd E Fz H ι n D (r.bind k) →
    (∀ a M1 Fz1 H1 ι1 b, Grow Fz H ι n Fz1 H1 ι1 M1.length → Rel K wd Fz1 H1 ι1 M1 → R1 Fz1 ι1 M1.length a b → PostS K wd E Fz1 H1 ι1 M1.length D (k a M1) → Q1 b H1) → Post K wd E Fz H ι n R1 Q1 r
  | .ok a M1, h, hk => fun Fz1 H1 ι1 b g rel q => hk a M1 Fz1 H1 ι1 b g rel q (PostS.grow g h)
  | .exc e M1, h, _ => h
  | .fail, h, _ => h
end
theorem _root_.L2.PE.imp {X : Cx} {e : Expr} {t t' : TE} (h : PE X e t) (i : ∀ σ H Q, t' σ H Q → t σ H Q) : PE X e t' := ⟨fun pins s σ H Q I q => h.run pins s σ H Q I (i σ H Q q)⟩
theorem _root_.L2.PT.imp {X : Cx} {e : Expr} {t t' : TT} (h : PT X e t) (i : ∀ σ H Q, t' σ H Q → t σ H Q) : PT X e t' := ⟨fun pins s σ H Q I q => h.run pins s σ H Q I (i σ H Q q)⟩
theorem _root_.L2.PW.imp {X : Cx} {e : Expr} {t t' : TT} (h : PW X e t) (i : ∀ σ H Q, t' σ H Q → t σ H Q) : PW X e t' := ⟨fun wh pins s σ H Q I q => h.run wh pins s σ H Q I (i σ H Q q)⟩
theorem _root_.L2.PA.imp {X : Cx} {e : List Expr} {t t' : TA} (h : PA X e t) (i : ∀ σ H Q, t' σ H Q → t σ H Q) : PA X e t' := ⟨fun pos pins s σ H Q I q => h.run pos pins s σ H Q I (i σ H Q q)⟩
theorem _root_.L2.PS.imp {X : Cx} {e : Stmt} {t t' : TS} (h : PS X e t) (i : ∀ D σ H, t' D σ H → t D σ H) : PS X e t' := ⟨fun pins s σ H D I q => h.run pins s σ H D I (i D σ H q)⟩
theorem _root_.L2.PSs.imp {X : Cx} {e : List Stmt} {t t' : TS} (h : PSs X e t) (i : ∀ D σ H, t' D σ H → t D σ H) : PSs X e t' := ⟨fun pins s σ H D I q => h.run pins s σ H D I (i D σ H q)⟩
theorem _root_.L2.PG.imp {X : Cx} {e : Expr} {t t' : TG} (h : PG X e t) (i : ∀ v σ H Q, t' v σ H Q → t v σ H Q) : PG X e t' := ⟨fun pins s σ H v u Q I r q => h.run pins s σ H v u Q I r (i v σ H Q q)⟩
theorem _root_.L2.PTs.imp {X : Cx} {e : List Expr} {t t' : TT} (h : PTs X e t) (i : ∀ σ H Q, t' σ H Q → t σ H Q) : PTs X e t' := ⟨fun pins s σ H Q I q => h.run pins s σ H Q I (i σ H Q q)⟩

abbrev XE (X : Cx) (E : XK) (e : Expr) (f : EF) : Prop := PE X e (wE X.K X.w E f)
abbrev XT (X : Cx) (E : XK) (e : Expr) (f : BF) : Prop := PT X e (wB X.K X.w E f)
abbrev XW (X : Cx) (E : XK) (e : Expr) (f : BF) : Prop := PW X e (wB X.K X.w E f)
abbrev XA (X : Cx) (E : XK) (es : List Expr) (f : AF) : Prop := PA X es (wA X.K X.w E f)
abbrev XS (X : Cx) (E : XK) (st : Stmt) (f : SF) : Prop := PS X st (wS X.K X.w E f)
abbrev XSs (X : Cx) (E : XK) (st : List Stmt) (f : SF) : Prop := PSs X st (wS X.K X.w E f)

/-! ### expressions -/
def eVar (i : Nat) : EF := fun ρ M => match ρ[i]? with
  | some (some d) => .ok d M
  | _ => .fail
def eC (d : D) : EF := fun _ M => .ok d M
def eFail : EF := fun _ _ => .fail
def eBin (op : D → D → Mem → Fl D) (fa fb : EF) : EF := fun ρ M => (fa ρ M).bind fun a M1 => (fb ρ M1).bind fun b M2 => op a b M2
def eUn (op : D → Mem → Fl D) (fa : EF) : EF := fun ρ M => (fa ρ M).bind fun a M1 => op a M1
def bOf (f : EF) : BF := fun ρ M => (f ρ M).bind fun d M1 => match d with
  | .bl b => .ok b M1
  | _ => .fail
def aNil : AF := fun _ M => .ok [] M
def aCons (fa : EF) (fr : AF) : AF := fun ρ M => (fa ρ M).bind fun a M1 => (fr ρ M1).bind fun l M2 => .ok (a :: l) M2
/-- a two-place operation on values as a function on data -/
def OpS (K : PySem.W.Frag) (wd : World) (E : XK) (r : R2) (op : D → D → Mem → Fl D) : Prop :=
  ∀ Fz H ι M a b x y Q, Rel K wd Fz H ι M → bnd M.length a → bnd M.length b → RepV K Fz ι a x → RepV K Fz ι b y → Post K wd E Fz H ι M.length (RD K) Q (op a b M) → r x y H Q
def UnS (K : PySem.W.Frag) (wd : World) (E : XK) (r : V → Hp → VK → Prop) (op : D → Mem → Fl D) : Prop :=
  ∀ Fz H ι M a x Q, Rel K wd Fz H ι M → bnd M.length a → RepV K Fz ι a x → Post K wd E Fz H ι M.length (RD K) Q (op a M) → r x H Q
/-- a call on values -/
def CaS (K : PySem.W.Frag) (wd : World) (E : XK) (r : List V → Hp → VK → Prop) (op : List D → Mem → Fl D) : Prop :=
  ∀ Fz H ι M l vs Q, Rel K wd Fz H ι M → bndL M.length l → RepL K Fz ι l vs → Post K wd E Fz H ι M.length (RD K) Q (op l M) → r vs H Q
def eCa (op : List D → Mem → Fl D) (fa : AF) : EF := fun ρ M => (fa ρ M).bind fun l M1 => op l M1

section
variable {X : Cx} {E : XK} {a b e : Expr} {es rest : List Expr} {fa fb f : EF} {fr : AF} {pos p : Pos} {K : PySem.W.Frag} {wd : World}
theorem xe_var (i : Nat) {x : Str} (hN : X.N[i]? = some x := by rfl) (hv : Vis X.env.scope x := by first | exact Or.inl rfl | exact Or.inr (Or.inl rfl) | exact Or.inr (Or.inr rfl)) (hd : (x == ("__debug__" : Str)) = false := by decide)
    (hcd : (x == ("__classdict__" : Str)) = false := by decide) : XE X E (.Name x pos) (eVar i) := by
  refine (pe_var hN hv hd hcd).imp fun σ H Q h => ?_
  obtain ⟨Fz, ι, M, ρ, S, q⟩ := h
  unfold eVar at q
  split at q
  · rename_i d e
    obtain ⟨b, v, e', r⟩ := S.slot i d e
    exact ⟨v, e', q.now S.rel ⟨b, r⟩⟩
  · exact q.elim
theorem xe_c {t : TE} {d : D} {v : V} (h : PE X e t) (ht : ∀ σ H Q, Q v H → t σ H Q) (hb : bnd 0 d) (hr : ∀ K Fz ι, RepV K Fz ι d v) : XE X E e (eC d) := by
  refine h.imp fun σ H Q h => ?_
  obtain ⟨Fz, ι, M, ρ, S, q⟩ := h
  exact ht σ H Q (q.now S.rel ⟨bnd.up (Nat.zero_le _) d hb, hr _ _ _⟩)
theorem xe_int {i j} : XE X E (.Constant (.int i) j pos) (eC (.int i)) := xe_c (v := .int i) pe_int (fun _ _ _ h => h) trivial fun _ _ _ => rfl
theorem xe_bl {b j} : XE X E (.Constant (.bool b) j pos) (eC (.bl b)) := xe_c (v := .bl b) pe_bl (fun _ _ _ h => h) trivial fun _ _ _ => rfl
theorem xe_non {j} : XE X E (.Constant .none j pos) (eC .non) := xe_c (v := .non) pe_non (fun _ _ _ h => h) trivial fun _ _ _ => rfl
theorem xe_str {x j} : XE X E (.Constant (.str x) j pos) (eC (.str x)) := xe_c (v := .str x) pe_str (fun _ _ _ h => h) trivial fun _ _ _ => rfl
theorem xe_fail : XE X E e eFail := ⟨fun pins s σ H Q I h => by
  obtain ⟨_, _, _, _, _, q⟩ := h
  exact q.elim⟩
/-- a module's constant: a number, a text .. -/
theorem xe_glob {x : Str} {d : D} {v : V} {u : Value} (hg : Gl X x) (hm : X.mg x = some u) (r : RelV v u) (hb : bnd 0 d) (hr : ∀ K Fz ι, RepV K Fz ι d v) (hd : (x == ("__debug__" : Str)) = false := by decide) : XE X E (.Name x pos) (eC d) :=
  xe_c (pe_glob hg hm r hd) (fun _ _ _ h => h) hb hr
theorem bin_w {r : R2} {op : D → D → Mem → Fl D} (ho : OpS K wd E r op) : ∀ σ H Q, wE K wd E (eBin op fa fb) σ H Q → tOp r (wE K wd E fa) (wE K wd E fb) σ H Q := by
  rintro σ H Q ⟨Fz, ι, M, ρ, S, q⟩
  refine ⟨Fz, ι, M, ρ, S, q.first fun a M1 Fz1 H1 ι1 x g1 R1 ra q1 => ?_⟩
  refine ⟨Fz1, ι1, M1, ρ, S.grow g1 R1, q1.first fun b M2 Fz2 H2 ι2 y g2 R2 rb q2 => ?_⟩
  exact ho Fz2 H2 ι2 M2 a b x y Q R2 (bnd.up g2.le a ra.1) rb.1 (g2.rep ra.1 ra.2) rb.2 q2
theorem xe_bin {o : Operator} {r : R2} {op : D → D → Mem → Fl D} (hr : OpR X (binaryOp o) r) (ho : OpS X.K X.w E r op) (ha : XE X E a fa) (hb : XE X E b fb) : XE X E (.BinOp a o b pos) (eBin op fa fb) :=
  (pe_op hr ha hb).imp (bin_w ho)
theorem xe_cmp {o : CmpOp} {r : R2} {op : D → D → Mem → Fl D} (hr : OpR X (compareOp o) r) (ho : OpS X.K X.w E r op) (ha : XE X E a fa) (hb : XE X E b fb) (hm : behindInMarks o b = false) : XE X E (.Compare a [o] [b] pos) (eBin op fa fb) :=
  (pe_cmpR hr ha hb hm).imp (bin_w ho)
theorem xe_un {o : UnaryOp} {r : V → Hp → VK → Prop} {op : D → Mem → Fl D} (hr : UnR X (unaryOp o) r) (ho : UnS X.K X.w E r op) (ha : XE X E a fa) : XE X E (.UnaryOp o a pos) (eUn op fa) := by
  refine (pe_un hr ha).imp ?_
  rintro σ H Q ⟨Fz, ι, M, ρ, S, q⟩
  refine ⟨Fz, ι, M, ρ, S, q.first fun a M1 Fz1 H1 ι1 x g1 R1 ra q1 => ?_⟩
  exact ho Fz1 H1 ι1 M1 a x Q R1 ra.1 ra.2 q1
theorem xe_ix {r : R2} {op : D → D → Mem → Fl D} (hr : IxR X r) (ho : OpS X.K X.w E r op) (ha : XE X E a fa) (hb : XE X E b fb) (hs : PlainIx b := by exact fun _ _ => rfl) : XE X E (.Subscript a b pos) (eBin op fa fb) :=
  (pe_ix hr ha hb hs).imp (bin_w ho)
/-! ### argument lists -/
theorem xa_nil : XA X E [] aNil := pa_nil.imp (by
  rintro σ H Q ⟨Fz, ι, M, ρ, S, q⟩
  exact q.now S.rel ⟨trivial, rfl⟩)
theorem xa_cons (ha : XE X E e f) (hr : XA X E es fr) (hs : starEach (e :: es) X.env = (false, eval e X.env) :: starEach es X.env := by rfl) : XA X E (e :: es) (aCons f fr) := (pa_cons ha hr hs).imp (by
  rintro σ H Q ⟨Fz, ι, M, ρ, S, q⟩
  refine ⟨Fz, ι, M, ρ, S, q.first fun a M1 Fz1 H1 ι1 x g1 R1 ra q1 => ?_⟩
  refine ⟨Fz1, ι1, M1, ρ, S.grow g1 R1, q1.first fun l M2 Fz2 H2 ι2 xs g2 R2 rb q2 => ?_⟩
  exact q2.now R2 ⟨⟨bnd.up g2.le a ra.1, rb.1⟩, x, xs, rfl, g2.rep ra.1 ra.2, rb.2⟩)
theorem ca_w {r : List V → Hp → VK → Prop} {op : List D → Mem → Fl D} (ho : CaS K wd E r op) : ∀ σ H Q, wE K wd E (eCa op fr) σ H Q → tCB r (wA K wd E fr) σ H Q := by
  rintro σ H Q ⟨Fz, ι, M, ρ, S, q⟩
  refine ⟨Fz, ι, M, ρ, S, q.first fun a M1 Fz1 H1 ι1 x g1 R1 ra q1 => ?_⟩
  exact ho Fz1 H1 ι1 M1 a x Q R1 ra.1 ra.2 q1
theorem xe_callB {x : Str} {id : String} {r : List V → Hp → VK → Prop} {op : List D → Mem → Fl D} (hc : CallR X (.builtin id) r) (ho : CaS X.K X.w E r op) (hm : X.mg x = none) (hv : bootBuiltins x = some (.builtin id)) (ha : XA X E (e :: es) fr)
    (hg : Gl X x := by rfl) (hn : x ≠ "__name__" := by decide) (hdb : (x == ("__debug__" : Str)) = false := by decide)
    (he : starEach (e :: es) X.env = (false, eval e X.env) :: starEach es X.env := by rfl) (hpl : (backTo pos (starEach es X.env)).any (·.1) = false := by rfl) : XE X E (.Call (.Name x p) (e :: es) [] pos) (eCa op fr) :=
  (pe_callB hc hg hm hv ha hn hdb he hpl).imp (ca_w ho)
theorem xe_callTy {x : Str} {id : String} {r : List V → Hp → VK → Prop} {op : List D → Mem → Fl D} (hc : CallR X (.type id) r) (ho : CaS X.K X.w E r op) (hm : X.mg x = none) (hv : bootBuiltins x = some (.type id)) (ha : XA X E (e :: es) fr)
    (hg : Gl X x := by rfl) (hn : x ≠ "__name__" := by decide) (hdb : (x == ("__debug__" : Str)) = false := by decide)
    (he : starEach (e :: es) X.env = (false, eval e X.env) :: starEach es X.env := by rfl) (hpl : (backTo pos (starEach es X.env)).any (·.1) = false := by rfl) : XE X E (.Call (.Name x p) (e :: es) [] pos) (eCa op fr) :=
  (pe_callTy hc hg hm hv ha hn hdb he hpl).imp (ca_w ho)
/-! ### displays -/
def tupD (l : List D) (M : Mem) : Fl D := if l.length ≤ 1000000 then .ok (.tup l) M else .fail
def lstF (l : List D) (M : Mem) : Fl D := if l.length ≤ 1000000 then .ok (.lst l) M else .fail
def lstP (l : List D) (M : Mem) : Fl D := if l.length ≤ 1000000 then .ok (.ptr M.length) (M ++ [MO.lst l]) else .fail
theorem small6 {n : Nat} (h : n ≤ 1000000) : n ≤ sizeLine := Nat.le_trans h (by decide)
theorem small6' {n : Nat} (h : n < 1000000) : n < sizeLine := Nat.lt_of_lt_of_le h (by decide)
theorem xe_tup {x1} (h : XA X E es fr) : XE X E (.Tuple es x1 pos) (eCa tupD fr) := (pe_tup h).imp (by
  rintro σ H Q ⟨Fz, ι, M, ρ, S, q⟩
  refine ⟨Fz, ι, M, ρ, S, q.first fun l M1 Fz1 H1 ι1 xs g1 R1 ra q1 => ?_⟩
  unfold tupD at q1
  split at q1
  · rename_i hl
    refine ⟨by rw [← RepL.len ra.2]; exact small6 hl, fun p hp => ?_⟩
    obtain ⟨R2, g2⟩ := R1.laid (o := .tup xs) hp
    exact q1 _ _ _ _ g2 R2 ⟨ra.1, p, xs, rfl, SqT.of upd_same, g2.repL ra.1 ra.2⟩
  · exact q1.elim)
theorem xe_lstF (h : XA X E es fr) : XE X E (.List es pos) (eCa lstF fr) := (pe_lst h).imp (by
  rintro σ H Q ⟨Fz, ι, M, ρ, S, q⟩
  refine ⟨Fz, ι, M, ρ, S, q.first fun l M1 Fz1 H1 ι1 xs g1 R1 ra q1 => ?_⟩
  unfold lstF at q1
  split at q1
  · rename_i hl
    refine ⟨by rw [← RepL.len ra.2]; exact small6 hl, fun p hp => ?_⟩
    obtain ⟨R2, g2⟩ := R1.laid (o := .lst xs) hp
    exact q1 _ _ _ _ g2 R2 ⟨ra.1, p, xs, rfl, upd_same, g2.repL ra.1 ra.2⟩
  · exact q1.elim)
theorem alloc_lst {Fz H : Hp} {ι : Nat → Addr} {M : Mem} {l : List D} {xs : List V} {p : Addr} (R : Rel K wd Fz H ι M) (hp : H p = none) (b : bndL M.length l) (r : RepL K Fz ι l xs) :
    Rel K wd Fz (upd H p (.lst xs)) (ext ι M.length p) (M ++ [MO.lst l]) ∧ Grow Fz H ι M.length Fz (upd H p (.lst xs)) (ext ι M.length p) (M ++ [MO.lst l]).length :=
  R.alloc (mo := .lst l) hp b fun H' ι' h1 h2 h3 => ⟨h3, xs, h1, RepL.up (fun _ _ e => e) h2 l xs b r⟩
theorem xe_lstP (h : XA X E es fr) : XE X E (.List es pos) (eCa lstP fr) := (pe_lst h).imp (by
  rintro σ H Q ⟨Fz, ι, M, ρ, S, q⟩
  refine ⟨Fz, ι, M, ρ, S, q.first fun l M1 Fz1 H1 ι1 xs g1 R1 ra q1 => ?_⟩
  unfold lstP at q1
  split at q1
  · rename_i hl
    refine ⟨by rw [← RepL.len ra.2]; exact small6 hl, fun p hp => ?_⟩
    obtain ⟨R2, g2⟩ := alloc_lst R1 hp ra.1 ra.2
    refine q1 _ _ _ _ g2 R2 ⟨?_, ?_⟩
    · show M1.length < (M1 ++ [MO.lst l]).length
      simp
    · show V.ref p = V.ref (ext ι1 M1.length p M1.length)
      rw [ext_same]
  · exact q1.elim)
end

/-! ### tests -/
section
variable {X : Cx} {E : XK} {a b c e : Expr} {es rest : List Expr} {fa fb f : EF} {ga gb gc : BF} {pos : Pos} {K : PySem.W.Frag} {wd : World}
theorem bOf_w {t : TE} {f : EF} (h : ∀ σ H Q, wE K wd E f σ H Q → t σ H Q) : ∀ σ H Q, wB K wd E (bOf f) σ H Q → t σ H (fun x H1 => ∃ c, x = .bl c ∧ Q c H1) := by
  rintro σ H Q ⟨Fz, ι, M, ρ, S, q⟩
  refine h _ _ _ ⟨Fz, ι, M, ρ, S, q.first fun d M1 Fz1 H1 ι1 x g1 R1 ra q1 => ?_⟩
  cases d with
  | bl b => exact ⟨b, ra.2, q1.now R1 rfl⟩
  | _ => exact q1.elim
theorem xt_cmp {o : CmpOp} {r : R2} {op : D → D → Mem → Fl D} (hr : OpR X (compareOp o) r) (ho : OpS X.K X.w E r op) (ha : XE X E a fa) (hb : XE X E b fb) (hm : behindInMarks o b = false) : XT X E (.Compare a [o] [b] pos) (bOf (eBin op fa fb)) :=
  (pt_cmpR hr ha hb hm).imp (bOf_w (bin_w ho))
theorem xt_val (h : XE X E e f) (he : ∀ whole, isTrue e X.env whole = (do let v ← whole; standAt e.pos; holding [v] (truthy v)) := by intro _; rfl) : XT X E e (bOf f) :=
  (pt_val h he).imp (bOf_w fun _ _ _ h => h)
def bAnd (ga gb : BF) : BF := fun ρ M => (ga ρ M).bind fun b M1 => if b = true then gb ρ M1 else .ok false M1
def bOr (ga gb : BF) : BF := fun ρ M => (ga ρ M).bind fun b M1 => if b = true then .ok true M1 else gb ρ M1
def bNot (ga : BF) : BF := fun ρ M => (ga ρ M).bind fun b M1 => .ok (!b) M1
theorem xw_and1 (ha : XT X E a ga) : XW X E (.BoolOp .And [a] pos) ga := pw_and1 ha
theorem xw_or1 (ha : XT X E a ga) : XW X E (.BoolOp .Or [a] pos) ga := pw_or1 ha
theorem xw_and (ha : XT X E a ga) (hb : XW X E (.BoolOp .And (b :: rest) pos) gb) : XW X E (.BoolOp .And (a :: b :: rest) pos) (bAnd ga gb) := (pw_and ha hb).imp (by
  rintro σ H Q ⟨Fz, ι, M, ρ, S, q⟩
  refine ⟨Fz, ι, M, ρ, S, q.first fun d M1 Fz1 H1 ι1 x g1 R1 ra q1 => ?_⟩
  have ra : x = d := ra
  subst ra
  cases x with
  | true =>
    rw [if_pos rfl] at q1 ⊢
    exact ⟨Fz1, ι1, M1, ρ, S.grow g1 R1, q1⟩
  | false =>
    rw [if_neg Bool.false_ne_true] at q1 ⊢
    exact q1.now R1 rfl)
theorem xw_or (ha : XT X E a ga) (hb : XW X E (.BoolOp .Or (b :: rest) pos) gb) : XW X E (.BoolOp .Or (a :: b :: rest) pos) (bOr ga gb) := (pw_or ha hb).imp (by
  rintro σ H Q ⟨Fz, ι, M, ρ, S, q⟩
  refine ⟨Fz, ι, M, ρ, S, q.first fun d M1 Fz1 H1 ι1 x g1 R1 ra q1 => ?_⟩
  have ra : x = d := ra
  subst ra
  cases x with
  | true =>
    rw [if_pos rfl] at q1 ⊢
    exact q1.now R1 rfl
  | false =>
    rw [if_neg Bool.false_ne_true] at q1 ⊢
    exact ⟨Fz1, ι1, M1, ρ, S.grow g1 R1, q1⟩)
theorem xt_w (h : XW X E e ga) : XT X E e ga := h.pt
theorem xt_not (ha : XT X E a ga) : XT X E (.UnaryOp .Not a pos) (bNot ga) := (pt_not ha).imp (by
  rintro σ H Q ⟨Fz, ι, M, ρ, S, q⟩
  refine ⟨Fz, ι, M, ρ, S, q.first fun d M1 Fz1 H1 ι1 x g1 R1 ra q1 => ?_⟩
  have ra : x = d := ra
  subst ra
  exact q1.now R1 rfl)
def eIf (gc : BF) (fa fb : EF) : EF := fun ρ M => (gc ρ M).bind fun b M1 => if b = true then fa ρ M1 else fb ρ M1
theorem xe_ifExp (hc : XT X E c gc) (ha : XE X E a fa) (hb : XE X E b fb) : XE X E (.IfExp c a b pos) (eIf gc fa fb) := (pe_ifExp hc ha hb).imp (by
  rintro σ H Q ⟨Fz, ι, M, ρ, S, q⟩
  refine ⟨Fz, ι, M, ρ, S, q.first fun d M1 Fz1 H1 ι1 x g1 R1 ra q1 => ?_⟩
  have ra : x = d := ra
  subst ra
  cases x with
  | true =>
    rw [if_pos rfl] at q1 ⊢
    exact ⟨Fz1, ι1, M1, ρ, S.grow g1 R1, q1⟩
  | false =>
    rw [if_neg Bool.false_ne_true] at q1 ⊢
    exact ⟨Fz1, ι1, M1, ρ, S.grow g1 R1, q1⟩)
/-- tests as values -/
def eAnd (fa fb : EF) : EF := fun ρ M => (bOf fa ρ M).bind fun b M1 => if b = true then fb ρ M1 else .ok (.bl false) M1
def eOr (fa fb : EF) : EF := fun ρ M => (bOf fa ρ M).bind fun b M1 => if b = true then .ok (.bl true) M1 else fb ρ M1
def eNot (fa : EF) : EF := fun ρ M => (bOf fa ρ M).bind fun b M1 => .ok (.bl (!b)) M1
theorem xe_one {op} (h : XE X E a fa) : XE X E (.BoolOp op [a] pos) fa := pe_one h
theorem xe_and (ha : XE X E a fa) (hb : XE X E (.BoolOp .And (b :: rest) pos) fb) : XE X E (.BoolOp .And (a :: b :: rest) pos) (eAnd fa fb) := (pe_and ha hb).imp (by
  rintro σ H Q ⟨Fz, ι, M, ρ, S, q⟩
  unfold eAnd bOf at q
  refine ⟨Fz, ι, M, ρ, S, ?_⟩
  cases e : fa ρ M with
  | fail => rw [e] at q; exact q.elim
  | exc => rw [e] at q; exact q
  | ok d M1 =>
    rw [e] at q
    intro Fz1 H1 ι1 x g1 R1 ra
    cases d with
    | bl k =>
      refine ⟨k, ra.2, ?_⟩
      cases k with
      | true =>
        rw [if_pos rfl]
        exact ⟨Fz1, ι1, M1, ρ, S.grow g1 R1, Post.grow g1 (show Post _ _ _ _ _ _ _ _ _ (fb ρ M1) from q)⟩
      | false =>
        rw [if_neg Bool.false_ne_true]
        exact Post.now (Post.grow g1 (show Post _ _ _ _ _ _ _ _ _ (Fl.ok (D.bl false) M1) from q)) R1 ⟨trivial, rfl⟩
    | _ => exact (show False from q).elim)
theorem xe_or (ha : XE X E a fa) (hb : XE X E (.BoolOp .Or (b :: rest) pos) fb) : XE X E (.BoolOp .Or (a :: b :: rest) pos) (eOr fa fb) := (pe_or ha hb).imp (by
  rintro σ H Q ⟨Fz, ι, M, ρ, S, q⟩
  unfold eOr bOf at q
  refine ⟨Fz, ι, M, ρ, S, ?_⟩
  cases e : fa ρ M with
  | fail => rw [e] at q; exact q.elim
  | exc => rw [e] at q; exact q
  | ok d M1 =>
    rw [e] at q
    intro Fz1 H1 ι1 x g1 R1 ra
    cases d with
    | bl k =>
      refine ⟨k, ra.2, ?_⟩
      cases k with
      | false =>
        rw [if_neg Bool.false_ne_true]
        exact ⟨Fz1, ι1, M1, ρ, S.grow g1 R1, Post.grow g1 (show Post _ _ _ _ _ _ _ _ _ (fb ρ M1) from q)⟩
      | true =>
        rw [if_pos rfl]
        exact Post.now (Post.grow g1 (show Post _ _ _ _ _ _ _ _ _ (Fl.ok (D.bl true) M1) from q)) R1 ⟨trivial, rfl⟩
    | _ => exact (show False from q).elim)
theorem xe_not (ha : XE X E a fa) : XE X E (.UnaryOp .Not a pos) (eNot fa) := (pe_not ha).imp (by
  rintro σ H Q ⟨Fz, ι, M, ρ, S, q⟩
  unfold eNot bOf at q
  refine ⟨Fz, ι, M, ρ, S, ?_⟩
  cases e : fa ρ M with
  | fail => rw [e] at q; exact q.elim
  | exc => rw [e] at q; exact q
  | ok d M1 =>
    rw [e] at q
    intro Fz1 H1 ι1 x g1 R1 ra
    cases d with
    | bl k => exact ⟨k, ra.2, Post.now (Post.grow g1 (show Post _ _ _ _ _ _ _ _ _ (Fl.ok (D.bl (!k)) M1) from q)) R1 ⟨trivial, rfl⟩⟩
    | _ => exact (show False from q).elim)
end

/-! ### statements -/
def sNext : SF := fun ρ M => .ok (.nx ρ) M
def sSeq (f g : SF) : SF := fun ρ M => (f ρ M).bind fun w M1 => match w with
  | .nx ρ1 => g ρ1 M1
  | w => .ok w M1
def sIf (c : BF) (f g : SF) : SF := fun ρ M => (c ρ M).bind fun b M1 => if b = true then f ρ M1 else g ρ M1
def sRet (f : EF) : SF := fun ρ M => (f ρ M).bind fun d M1 => .ok (.rt d) M1
def sRetN : SF := fun _ M => .ok (.rt .non) M
def sSet (i : Nat) (f : EF) : SF := fun ρ M => (f ρ M).bind fun d M1 => .ok (.nx (ρ.set i (some d))) M1
def sEx (f : EF) : SF := fun ρ M => (f ρ M).bind fun _ M1 => .ok (.nx ρ) M1
def sBrk : SF := fun ρ M => .ok (.bk ρ) M
def sCnt : SF := fun ρ M => .ok (.ct ρ) M
def sFail : SF := fun _ _ => .fail
def sAug (i : Nat) (op : D → D → Mem → Fl D) (f : EF) : SF := fun ρ M => (eVar i ρ M).bind fun a M0 => (f ρ M0).bind fun b M1 => (op a b M1).bind fun d M2 => .ok (.nx (ρ.set i (some d))) M2
section
variable {X : Cx} {E : XK} {st : Stmt} {rest : List Stmt} {f g : SF} {e c : Expr} {fe : EF} {fc : BF} {pos : Pos} {K : PySem.W.Frag} {wd : World} {a b : List Stmt}
theorem Sim.set {Fz H : Hp} {ι : Nat → Addr} {M : Mem} {ρ : Ro} {σ : L2.St} {d : D} {v : V} (S : Sim K wd Fz H ι M ρ σ) (i : Nat) (b : bnd M.length d) (r : RepV K Fz ι d v) : Sim K wd Fz H ι M (ρ.set i (some d)) (σ.set i (some v)) := by
  refine ⟨S.rel, by rw [List.length_set, List.length_set]; exact S.len, fun j d' e => ?_⟩
  by_cases h : j = i
  · subst h
    have hj : j < ρ.length := by
      have := (List.getElem?_eq_some_iff.mp e).1
      rwa [List.length_set] at this
    rw [List.getElem?_set_self hj] at e
    have e : d = d' := Option.some.inj (Option.some.inj e)
    subst e
    exact ⟨b, v, List.getElem?_set_self (by rw [← S.len]; exact hj), r⟩
  · rw [List.getElem?_set_ne (Ne.symm h)] at e
    obtain ⟨b', v', e', r'⟩ := S.slot j d' e
    exact ⟨b', v', by rw [List.getElem?_set_ne (Ne.symm h)]; exact e', r'⟩
theorem Sim.wipe {Fz H : Hp} {ι : Nat → Addr} {M : Mem} {ρ : Ro} {σ : L2.St} (S : Sim K wd Fz H ι M ρ σ) (i : Nat) : Sim K wd Fz H ι M (ρ.set i none) (σ.set i none) := by
  refine ⟨S.rel, by rw [List.length_set, List.length_set]; exact S.len, fun j d' e => ?_⟩
  by_cases h : j = i
  · subst h
    have hj : j < ρ.length := by
      have := (List.getElem?_eq_some_iff.mp e).1
      rwa [List.length_set] at this
    rw [List.getElem?_set_self hj] at e
    cases Option.some.inj e
  · rw [List.getElem?_set_ne (Ne.symm h)] at e
    obtain ⟨b', v', e', r'⟩ := S.slot j d' e
    exact ⟨b', v', by rw [List.getElem?_set_ne (Ne.symm h)]; exact e', r'⟩
theorem PostS.nxt {Fz H : Hp} {ι : Nat → Addr} {M : Mem} {ρ : Ro} {σ : L2.St} {D : Ends} (q : PostS K wd E Fz H ι M.length D (.ok (.nx ρ) M)) (S : Sim K wd Fz H ι M ρ σ) : D.nx σ H := q Fz H ι σ (Grow.refl _ _ _ _) S
theorem PostS.ret {Fz H : Hp} {ι : Nat → Addr} {M : Mem} {d : MM.D} {v : V} {D : Ends} (q : PostS K wd E Fz H ι M.length D (.ok (.rt d) M)) (R : Rel K wd Fz H ι M) (b : bnd M.length d) (r : RepV K Fz ι d v) : D.rt v H := q Fz H ι v (Grow.refl _ _ _ _) R b r
theorem xss_nil : XSs X E [] sNext := pss_nil.imp (by
  rintro D σ H ⟨Fz, ι, M, ρ, S, q⟩
  exact q.nxt S)
theorem seq_w : ∀ D σ H, wS K wd E (sSeq f g) D σ H → tSeq (wS K wd E f) (wS K wd E g) D σ H := by
  rintro D σ H ⟨Fz, ι, M, ρ, S, q⟩
  refine ⟨Fz, ι, M, ρ, S, ?_⟩
  unfold sSeq at q
  cases e : f ρ M with
  | fail => rw [e] at q; exact q
  | exc => rw [e] at q; exact q
  | ok w M1 =>
    rw [e] at q
    cases w with
    | nx ρ1 => exact fun Fz1 H1 ι1 σ1 g1 S1 => ⟨Fz1, ι1, M1, ρ1, S1, PostS.grow g1 (show PostS _ _ _ _ _ _ _ _ (g ρ1 M1) from q)⟩
    | rt d => exact q
    | bk ρ1 => exact q
    | ct ρ1 => exact q
theorem xss_cons (h1 : XS X E st f) (h2 : XSs X E rest g) : XSs X E (st :: rest) (sSeq f g) := (pss_cons h1 h2).imp seq_w
theorem xss_one (h1 : XS X E st f) : XSs X E [st] f := pss_one h1
theorem xs_pass : XS X E (.Pass pos) sNext := ps_pass.imp (by
  rintro D σ H ⟨Fz, ι, M, ρ, S, q⟩
  exact q.nxt S)
theorem xs_break : XS X E (.Break pos) sBrk := ps_break.imp (by
  rintro D σ H ⟨Fz, ι, M, ρ, S, q⟩
  exact q Fz H ι σ (Grow.refl _ _ _ _) S)
theorem xs_continue : XS X E (.Continue pos) sCnt := ps_continue.imp (by
  rintro D σ H ⟨Fz, ι, M, ρ, S, q⟩
  exact q Fz H ι σ (Grow.refl _ _ _ _) S)
theorem xs_fail : XS X E st sFail := ⟨fun pins s σ H D I h => by
  obtain ⟨_, _, _, _, _, q⟩ := h
  exact q.elim⟩
theorem xss_fail {sts : List Stmt} : XSs X E sts sFail := ⟨fun pins s σ H D I h => by
  obtain ⟨_, _, _, _, _, q⟩ := h
  exact q.elim⟩
theorem xs_expr (he : XE X E e fe) (hs : swapsWith e none pos.line X.env = pure false := by rfl) : XS X E (.Expr e pos) (sEx fe) := (ps_expr he hs).imp (by
  rintro D σ H ⟨Fz, ι, M, ρ, S, q⟩
  exact ⟨Fz, ι, M, ρ, S, q.first fun d M1 Fz1 H1 ι1 x g1 R1 ra q1 => q1.nxt (S.grow g1 R1)⟩)
theorem xs_ret (he : XE X E e fe) : XS X E (.Return (some e) pos) (sRet fe) := (ps_ret he).imp (by
  rintro D σ H ⟨Fz, ι, M, ρ, S, q⟩
  exact ⟨Fz, ι, M, ρ, S, q.first fun d M1 Fz1 H1 ι1 x g1 R1 ra q1 => q1.ret R1 ra.1 ra.2⟩)
theorem xs_retN : XS X E (.Return none pos) sRetN := ps_retN.imp (by
  rintro D σ H ⟨Fz, ι, M, ρ, S, q⟩
  exact q.ret S.rel trivial rfl)
theorem xs_if (hc : XT X E c fc) (ha : XSs X E a f) (hb : XSs X E b g) : XS X E (.If c a b pos) (sIf fc f g) := (ps_if hc ha hb).imp (by
  rintro D σ H ⟨Fz, ι, M, ρ, S, q⟩
  refine ⟨Fz, ι, M, ρ, S, q.first fun d M1 Fz1 H1 ι1 x g1 R1 ra q1 => ?_⟩
  have ra : x = d := ra
  subst ra
  cases x with
  | true =>
    rw [if_pos rfl] at q1 ⊢
    exact ⟨Fz1, ι1, M1, ρ, S.grow g1 R1, q1⟩
  | false =>
    rw [if_neg Bool.false_ne_true] at q1 ⊢
    exact ⟨Fz1, ι1, M1, ρ, S.grow g1 R1, q1⟩)
theorem xs_set {i : Nat} {x : Str} {pos' : Pos} (hN : X.N.Nodup) (he : XE X E e fe) (hi : X.N[i]? = some x := by rfl) (hx : Loc X.env.scope x := by first | exact Or.inl rfl | exact Or.inr rfl) (hs : swapsWith e (some (.Name x pos')) pos.line X.env = pure false := by rfl)
    (hf : X.fn x = true ∨ X.env.scope.names.lookup x = some .local := by first | exact .inl rfl | exact .inr rfl | assumption) : XS X E (.Assign [.Name x pos'] e pos) (sSet i fe) := (ps_set hN hi hx he hs hf).imp (by
  rintro D σ H ⟨Fz, ι, M, ρ, S, q⟩
  exact ⟨Fz, ι, M, ρ, S, q.first fun d M1 Fz1 H1 ι1 x g1 R1 ra q1 => q1.nxt ((S.grow g1 R1).set i ra.1 ra.2)⟩)
theorem xs_aug {i : Nat} {x : Str} {pos' : Pos} {o : Operator} {r : R2} {op : D → D → Mem → Fl D} (hN : X.N.Nodup) (hr : PIp X o r) (ho : OpS X.K X.w E r op) (he : XE X E e fe) (hi : X.N[i]? = some x := by rfl)
    (hx : Loc X.env.scope x := by first | exact Or.inl rfl | exact Or.inr rfl) (hf : X.fn x = true ∨ X.env.scope.names.lookup x = some .local := by first | exact .inl rfl | exact .inr rfl | assumption) :
    XS X E (.AugAssign (.Name x pos') o e pos) (sAug i op fe) := (ps_aug hN hi hx he hr hf).imp (by
  rintro D σ H ⟨Fz, ι, M, ρ, S, q⟩
  unfold sAug eVar at q
  split at q
  · rename_i d hd
    obtain ⟨bd, v, e', rv⟩ := S.slot i d hd
    refine ⟨v, e', Fz, ι, M, ρ, S, ?_⟩
    refine PostS.first (show PostS _ _ _ _ _ _ _ _ ((fe ρ M).bind _) from q) fun b M1 Fz1 H1 ι1 y g1 R1 rb q1 => ?_
    refine ho Fz1 H1 ι1 M1 d b v y _ R1 (bnd.up g1.le d bd) rb.1 (g1.rep bd rv) rb.2 ?_
    exact q1.first fun z M2 Fz2 H2 ι2 w g2 R2 rz q2 => q2.nxt ((S.grow (g1.trans g2) R2).set i rz.1 rz.2)
  · exact (show False from q).elim)
end
end MM

/-! MMc: operations on data. -/
namespace MM
open PySem PySem.Spec PyProof.Rows L2

/-! ### numbers and texts -/
def addD : D → D → Mem → Fl D
  | .int i, .int j, M => .ok (.int (i + j)) M
  | .str x, .str y, M => if x.length + y.length ≤ 1000000 then .ok (.str (x ++ y)) M else .fail
  | _, _, _ => .fail
def i2 (C : Int → Int → Bool) (g : Int → Int → D) : D → D → Mem → Fl D
  | .int i, .int j, M => if C i j = true then .ok (g i j) M else .fail
  | _, _, _ => .fail
def subD : D → D → Mem → Fl D
  | .int i, .int j, M => .ok (.int (i - j)) M
  | _, _, _ => .fail
def mulD : D → D → Mem → Fl D
  | .int i, .int j, M => if (-18446744073709551616 < i ∧ i < 18446744073709551616) ∨ (-18446744073709551616 < j ∧ j < 18446744073709551616) then .ok (.int (i * j)) M else .fail
  | _, _, _ => .fail
def divD : D → D → Mem → Fl D
  | .int i, .int j, M => if 0 < j ∧ j < 1073741824 then .ok (.int (i / j)) M else .fail
  | _, _, _ => .fail
def modD : D → D → Mem → Fl D
  | .int i, .int j, M => if 0 < j then .ok (.int (i % j)) M else .fail
  | _, _, _ => .fail
def shlD : D → D → Mem → Fl D
  | .int i, .int j, M => if (0 ≤ j ∧ j ≤ 1000000) ∧ i.natAbs < 18446744073709551616 then .ok (.int (i * 2 ^ j.toNat)) M else .fail
  | _, _, _ => .fail
def powD : D → D → Mem → Fl D
  | .int i, .int j, M => if (0 ≤ j ∧ j ≤ 1000000) ∧ i.natAbs < 18446744073709551616 then .ok (.int (i ^ j.toNat)) M else .fail
  | _, _, _ => .fail
def shrD : D → D → Mem → Fl D
  | .int i, .int j, M => if 0 ≤ j then .ok (.int (i / 2 ^ j.toNat)) M else .fail
  | _, _, _ => .fail
def andD : D → D → Mem → Fl D
  | .int i, .int j, M => .ok (.int (Builtin.bitAnd i j)) M
  | _, _, _ => .fail
def orD : D → D → Mem → Fl D
  | .int i, .int j, M => .ok (.int (Builtin.bitOr i j)) M
  | _, _, _ => .fail
def xorD : D → D → Mem → Fl D
  | .int i, .int j, M => .ok (.int (Builtin.bitXor i j)) M
  | _, _, _ => .fail
def notD : D → Mem → Fl D
  | .int i, M => .ok (.int (Builtin.bitNot i)) M
  | _, _ => .fail
def negD : D → Mem → Fl D
  | .int i, M => .ok (.int (-i)) M
  | _, _ => .fail
def ltD : D → D → Mem → Fl D
  | .int i, .int j, M => .ok (.bl (decide (i < j))) M
  | _, _, _ => .fail
def leD : D → D → Mem → Fl D
  | .int i, .int j, M => .ok (.bl (decide (i ≤ j))) M
  | _, _, _ => .fail
def gtD : D → D → Mem → Fl D
  | .int i, .int j, M => .ok (.bl (decide (j < i))) M
  | _, _, _ => .fail
def geD : D → D → Mem → Fl D
  | .int i, .int j, M => .ok (.bl (decide (j ≤ i))) M
  | _, _, _ => .fail
section
variable {X : Cx} {K : PySem.W.Frag} {wd : World} {E : XK}
def rAddA : R2 := fun x y H Q => (∃ i j, x = .int i ∧ y = .int j ∧ Q (.int (i + j)) H) ∨ ∃ i j, x = .str i ∧ y = .str j ∧ i.length + j.length ≤ sizeLine ∧ Q (.str (i ++ j)) H
theorem or_addA : OpR X (binaryOp .Add) rAddA := OpR.or op_add op_add_str
theorem os_add : OpS K wd E rAddA addD := by
  intro Fz H ι M a b x y Q R ba bb ra rb q
  cases a <;> cases b <;> first
    | exact q.elim
    | exact .inl ⟨_, _, ra, rb, Post.now (a := D.int _) q R ⟨trivial, rfl⟩⟩
    | (rename_i i j
       dsimp only [addD] at q
       by_cases hl : i.length + j.length ≤ 1000000
       · rw [if_pos hl] at q
         exact .inr ⟨_, _, ra, rb, small6 hl, q.now R ⟨trivial, rfl⟩⟩
       · rw [if_neg hl] at q
         exact q.elim)
theorem os_i0 {g : Int → Int → V} {h : Int → Int → D} {op : D → D → Mem → Fl D} (hg : ∀ i j, (∀ K Fz ι, RepV K Fz ι (h i j) (g i j)) ∧ bnd 0 (h i j)) (e : ∀ a b M, op a b M = match a, b with
    | .int i, .int j => .ok (h i j) M
    | _, _ => .fail) : OpS K wd E (rI0 g) op := by
  intro Fz H ι M a b x y Q R ba bb ra rb q
  rw [e] at q
  cases a <;> cases b <;> first
    | exact q.elim
    | (rename_i i j
       exact ⟨i, j, ra, rb, q.now R ⟨bnd.up (Nat.zero_le _) _ (hg i j).2, (hg i j).1 _ _ _⟩⟩)
theorem os_iC {C : Int → Int → Prop} {c : Int → Int → Prop} [∀ i j, Decidable (c i j)] {g : Int → Int → Int} {op : D → D → Mem → Fl D} (hc : ∀ i j, c i j → C i j) (e : ∀ a b M, op a b M = match a, b with
    | .int i, .int j => if c i j then .ok (.int (g i j)) M else .fail
    | _, _ => .fail) : OpS K wd E (rI C fun i j => .int (g i j)) op := by
  intro Fz H ι M a b x y Q R ba bb ra rb q
  rw [e] at q
  cases a <;> cases b <;> first
    | exact q.elim
    | (rename_i i j
       dsimp only at q
       split at q
       · rename_i hh
         exact ⟨i, j, ra, rb, hc i j hh, q.now R ⟨trivial, rfl⟩⟩
       · exact q.elim)
theorem os_sub : OpS K wd E (rI0 fun i j => .int (i - j)) subD := os_i0 (h := fun i j => .int (i - j)) (fun _ _ => ⟨fun _ _ _ => rfl, trivial⟩) (fun a b M => by cases a <;> cases b <;> rfl)
theorem os_and : OpS K wd E (rI0 fun i j => .int (Builtin.bitAnd i j)) andD := os_i0 (h := fun i j => .int (Builtin.bitAnd i j)) (fun _ _ => ⟨fun _ _ _ => rfl, trivial⟩) (fun a b M => by cases a <;> cases b <;> rfl)
theorem os_or : OpS K wd E (rI0 fun i j => .int (Builtin.bitOr i j)) orD := os_i0 (h := fun i j => .int (Builtin.bitOr i j)) (fun _ _ => ⟨fun _ _ _ => rfl, trivial⟩) (fun a b M => by cases a <;> cases b <;> rfl)
theorem os_xor : OpS K wd E (rI0 fun i j => .int (Builtin.bitXor i j)) xorD := os_i0 (h := fun i j => .int (Builtin.bitXor i j)) (fun _ _ => ⟨fun _ _ _ => rfl, trivial⟩) (fun a b M => by cases a <;> cases b <;> rfl)
theorem os_lt : OpS K wd E (rI0 fun i j => .bl (decide (i < j))) ltD := os_i0 (h := fun i j => .bl (decide (i < j))) (fun _ _ => ⟨fun _ _ _ => rfl, trivial⟩) (fun a b M => by cases a <;> cases b <;> rfl)
theorem os_le : OpS K wd E (rI0 fun i j => .bl (decide (i ≤ j))) leD := os_i0 (h := fun i j => .bl (decide (i ≤ j))) (fun _ _ => ⟨fun _ _ _ => rfl, trivial⟩) (fun a b M => by cases a <;> cases b <;> rfl)
theorem os_gt : OpS K wd E (rI0 fun i j => .bl (decide (j < i))) gtD := os_i0 (h := fun i j => .bl (decide (j < i))) (fun _ _ => ⟨fun _ _ _ => rfl, trivial⟩) (fun a b M => by cases a <;> cases b <;> rfl)
theorem os_ge : OpS K wd E (rI0 fun i j => .bl (decide (j ≤ i))) geD := os_i0 (h := fun i j => .bl (decide (j ≤ i))) (fun _ _ => ⟨fun _ _ _ => rfl, trivial⟩) (fun a b M => by cases a <;> cases b <;> rfl)
theorem os_mul : OpS K wd E (rI CMul fun i j => .int (i * j)) mulD := os_iC (c := fun i j => (-18446744073709551616 < i ∧ i < 18446744073709551616) ∨ (-18446744073709551616 < j ∧ j < 18446744073709551616)) (fun i j h => by unfold CMul; simpa using h) (fun a b M => by cases a <;> cases b <;> rfl)
theorem os_div : OpS K wd E (rI CDiv fun i j => .int (i / j)) divD := os_iC (c := fun i j => 0 < j ∧ j < 1073741824) (fun i j h => h) (fun a b M => by cases a <;> cases b <;> rfl)
theorem os_mod : OpS K wd E (rI (fun _ j => 0 < j) fun i j => .int (i % j)) modD := os_iC (c := fun i j => 0 < j) (fun i j h => h) (fun a b M => by cases a <;> cases b <;> rfl)
theorem os_shl : OpS K wd E (rI CPow fun i j => .int (i * 2 ^ j.toNat)) shlD := os_iC (c := fun i j => (0 ≤ j ∧ j ≤ 1000000) ∧ i.natAbs < 18446744073709551616) (fun i j h => ⟨h.1.1, h.1.2, by simpa using h.2⟩) (fun a b M => by cases a <;> cases b <;> rfl)
theorem os_pow : OpS K wd E (rI CPow fun i j => .int (i ^ j.toNat)) powD := os_iC (c := fun i j => (0 ≤ j ∧ j ≤ 1000000) ∧ i.natAbs < 18446744073709551616) (fun i j h => ⟨h.1.1, h.1.2, by simpa using h.2⟩) (fun a b M => by cases a <;> cases b <;> rfl)
theorem os_shr : OpS K wd E (rI (fun _ j => 0 ≤ j) fun i j => .int (i / 2 ^ j.toNat)) shrD := os_iC (c := fun i j => 0 ≤ j) (fun i j h => h) (fun a b M => by cases a <;> cases b <;> rfl)
theorem us_not : UnS K wd E (rU fun i => .int (Builtin.bitNot i)) notD := by
  intro Fz H ι M a x Q R ba ra q
  cases a <;> first
    | exact q.elim
    | exact ⟨_, ra, q.now R ⟨trivial, rfl⟩⟩
theorem us_neg : UnS K wd E (rU fun i => .int (-i)) negD := by
  intro Fz H ι M a x Q R ba ra q
  cases a <;> first
    | exact q.elim
    | exact ⟨_, ra, q.now R ⟨trivial, rfl⟩⟩
end

/-! ### what a list, a tuple holds -/
/-- a changing list as it stands -/
def viewD (M : Mem) : D → D
  | .ptr k => match M[k]? with
    | some (.lst l) => .lst l
    | _ => .ptr k
  | d => d
/-- the items of a list or tuple -/
def itemsD (M : Mem) : D → Option (List D)
  | .tup l => some l
  | .lst l => some l
  | .scr l => some l
  | .ptr k => match M[k]? with
    | some (.lst l) => some l
    | _ => none
  | _ => none
section
variable {X : Cx} {K : PySem.W.Frag} {wd : World} {E : XK} {Fz H : Hp} {ι : Nat → Addr} {M : Mem} {a : D} {l : List D} {x : V}
theorem items_ok (R : Rel K wd Fz H ι M) (ba : bnd M.length a) (ra : RepV K Fz ι a x) (h : itemsD M a = some l) :
    bndL M.length l ∧ ∃ p vs, x = .ref p ∧ (SqL K H p vs ∨ SqT K H p vs) ∧ RepL K Fz ι l vs ∧ ((∃ l', a = .tup l') ∨ SqL K H p vs) := by
  cases a with
  | tup l' =>
    have h : l' = l := Option.some.inj h
    subst h
    obtain ⟨p, vs, e, s, r⟩ := ra
    exact ⟨ba, p, vs, e, .inr (SqT.up R.fz s), r, .inl ⟨l', rfl⟩⟩
  | lst l' =>
    have h : l' = l := Option.some.inj h
    subst h
    obtain ⟨p, vs, e, s, r⟩ := ra
    exact ⟨ba, p, vs, e, .inl (SqL.of (R.fz _ _ s)), r, .inr (SqL.of (R.fz _ _ s))⟩
  | scr l' =>
    have h : l' = l := Option.some.inj h
    subst h
    obtain ⟨p, vs, e, s, r⟩ := ra
    exact ⟨ba, p, vs, e, .inl (SqL.up R.fz s), r, .inr (SqL.up R.fz s)⟩
  | ptr k =>
    unfold itemsD at h
    dsimp only at h
    split at h
    · rename_i l' e
      have h : l' = l := Option.some.inj h
      subst h
      obtain ⟨_, vs, e1, r⟩ := R.ob k _ e
      exact ⟨R.wf k _ e, ι k, vs, ra, .inl (SqL.of e1), r, .inr (SqL.of e1)⟩
    · cases h
  | _ => cases h
end

/-! ### == -/
mutual
def toPy : D → Option PyData
  | .non => some .none
  | .bl b => some (.bool b)
  | .int i => some (.int i)
  | .str x => some (.str x)
  | .tup l => (toPyL l).map .tuple
  | .lst l => (toPyL l).map .list
  | .scr l => (toPyL l).map .list
  | .ptr _ => none
def toPyL : List D → Option (List PyData)
  | [] => some []
  | d :: l => (toPy d).bind fun p => (toPyL l).map fun r => p :: r
end
mutual
theorem toPy_dp {K : PySem.W.Frag} {Fz H : Hp} {ι : Nat → Addr} (h : ∀ a o, Fz a = some o → H a = some o) : ∀ (d : D) (p : PyData) (v : V), toPy d = some p → RepV K Fz ι d v → Dp K H v p
  | .non, _, _, e, r => by
    cases e
    have r : _ = V.non := r
    subst r
    exact .non
  | .bl b, _, _, e, r => by
    cases e
    have r : _ = V.bl b := r
    subst r
    exact .bl b
  | .int i, _, _, e, r => by
    cases e
    have r : _ = V.int i := r
    subst r
    exact .int i
  | .str x, _, _, e, r => by
    cases e
    have r : _ = V.str x := r
    subst r
    exact .str x
  | .tup l, _, _, e, r => by
    obtain ⟨a, vs, e1, s, q⟩ := r
    subst e1
    rw [toPy] at e
    cases el : toPyL l with
    | none => rw [el] at e; cases e
    | some ps =>
      rw [el] at e
      cases e
      exact .tup (SqT.up h s) (toPyL_dp h l ps vs el q)
  | .lst l, _, _, e, r => by
    obtain ⟨a, vs, e1, s, q⟩ := r
    subst e1
    rw [toPy] at e
    cases el : toPyL l with
    | none => rw [el] at e; cases e
    | some ps =>
      rw [el] at e
      cases e
      exact .lst (SqL.of (h _ _ s)) (toPyL_dp h l ps vs el q)
  | .scr l, _, _, e, r => by
    obtain ⟨a, vs, e1, s, q⟩ := r
    subst e1
    rw [toPy] at e
    cases el : toPyL l with
    | none => rw [el] at e; cases e
    | some ps =>
      rw [el] at e
      cases e
      exact .lst (SqL.up h s) (toPyL_dp h l ps vs el q)
  | .ptr _, _, _, e, _ => by cases e
theorem toPyL_dp {K : PySem.W.Frag} {Fz H : Hp} {ι : Nat → Addr} (h : ∀ a o, Fz a = some o → H a = some o) : ∀ (l : List D) (ps : List PyData) (vs : List V), toPyL l = some ps → RepL K Fz ι l vs → DpAll K H vs ps
  | [], _, _, e, r => by
    cases e
    have r : _ = [] := r
    subst r
    exact .nil
  | d :: l, _, _, e, r => by
    obtain ⟨v, r', e1, q, q'⟩ := r
    subst e1
    rw [toPyL] at e
    cases ed : toPy d with
    | none => rw [ed] at e; cases e
    | some p =>
      cases el : toPyL l with
      | none => rw [ed, el] at e; cases e
      | some ps =>
        rw [ed, el] at e
        cases e
        exact .cons (toPy_dp h d p v ed q) (toPyL_dp h l ps r' el q')
end
/-- == of two plain ones -/
def eqS : D → D → Option Bool
  | .non, .non => some true | .non, .int _ => some false | .int _, .non => some false | .non, .bl _ => some false | .bl _, .non => some false | .non, .str _ => some false | .str _, .non => some false
  | .int i, .int j => some (decide (i = j)) | .bl i, .bl j => some (decide (i = j)) | .str i, .str j => some (decide (i = j))
  | .int _, .str _ => some false | .str _, .int _ => some false | .bl _, .str _ => some false | .str _, .bl _ => some false
  | _, _ => none
def eqG (a b : D) (M : Mem) : Option Bool := match toPy (viewD M a), toPy (viewD M b) with
  | some p, some q => if SeqAt.shaped p = true ∧ SeqAt.shaped q = true then some (PyData.eqv p q) else none
  | _, _ => none
def eqD (a b : D) (M : Mem) : Fl D := match eqS a b with
  | some k => .ok (.bl k) M
  | none => match eqG a b M with
    | some k => .ok (.bl k) M
    | none => .fail
def neD (a b : D) (M : Mem) : Fl D := match eqS a b with
  | some k => .ok (.bl (!k)) M
  | none => match eqG a b M with
    | some k => .ok (.bl (!k)) M
    | none => .fail
section
variable {X : Cx} {K : PySem.W.Frag} {wd : World} {E : XK}
theorem view_dp {Fz H : Hp} {ι : Nat → Addr} {M : Mem} {a : D} {x : V} {p : PyData} (R : Rel K wd Fz H ι M) (ra : RepV K Fz ι a x) (h : toPy (viewD M a) = some p) : Dp K H x p := by
  cases a with
  | ptr k =>
    unfold viewD at h
    dsimp only at h
    split at h
    · rename_i l e
      obtain ⟨_, vs, e1, r⟩ := R.ob k _ e
      have ra : x = .ref (ι k) := ra
      subst ra
      rw [toPy] at h
      cases el : toPyL l with
      | none => rw [el] at h; cases h
      | some ps =>
        rw [el] at h
        cases h
        exact .lst (SqL.of e1) (toPyL_dp R.fz l ps vs el r)
    · cases h
  | _ => exact toPy_dp R.fz _ _ _ h ra
theorem eqS_ok {Fz : Hp} {ι : Nat → Addr} {a b : D} {x y : V} {k : Bool} (ra : RepV K Fz ι a x) (rb : RepV K Fz ι b y) (h : eqS a b = some k) : scal x y = true ∧ decide (x = y) = k := by
  cases a <;> cases b <;> first
    | (cases h; done)
    | (have ra : x = _ := ra
       have rb : y = _ := rb
       subst ra rb
       have h := Option.some.inj h
       subst h
       exact ⟨rfl, by simp⟩)
def rEqA (K : PySem.W.Frag) : R2 := fun x y H Q => rEq x y H Q ∨ rEqD K x y H Q
def rNeA (K : PySem.W.Frag) : R2 := fun x y H Q => rNe x y H Q ∨ rNeD K x y H Q
theorem or_eqA (hu : X.A.units + 64 < cLine) : OpR X (compareOp .Eq) (rEqA X.K) := OpR.or op_eq (op_eqD hu)
theorem or_neA (hu : X.A.units + 64 < cLine) : OpR X (compareOp .NotEq) (rNeA X.K) := OpR.or op_ne (op_neD hu)
theorem os_eq : OpS K wd E (rEqA K) eqD := by
  intro Fz H ι M a b x y Q R ba bb ra rb q
  unfold eqD at q
  cases e : eqS a b with
  | some k =>
    rw [e] at q
    obtain ⟨h1, h2⟩ := eqS_ok ra rb e
    exact .inl ⟨h1, by rw [h2]; exact q.now R ⟨trivial, rfl⟩⟩
  | none =>
    rw [e] at q
    cases e2 : eqG a b M with
    | none => rw [e2] at q; exact q.elim
    | some k =>
      rw [e2] at q
      unfold eqG at e2
      split at e2
      · rename_i p p' h1 h2
        split at e2
        · rename_i hs
          have e2 := Option.some.inj e2
          subst e2
          exact .inr ⟨p, p', view_dp R ra h1, view_dp R rb h2, hs.1, hs.2, q.now R ⟨trivial, rfl⟩⟩
        · cases e2
      · cases e2
theorem os_ne : OpS K wd E (rNeA K) neD := by
  intro Fz H ι M a b x y Q R ba bb ra rb q
  unfold neD at q
  cases e : eqS a b with
  | some k =>
    rw [e] at q
    obtain ⟨h1, h2⟩ := eqS_ok ra rb e
    exact .inl ⟨h1, by rw [h2]; exact q.now R ⟨trivial, rfl⟩⟩
  | none =>
    rw [e] at q
    cases e2 : eqG a b M with
    | none => rw [e2] at q; exact q.elim
    | some k =>
      rw [e2] at q
      unfold eqG at e2
      split at e2
      · rename_i p p' h1 h2
        split at e2
        · rename_i hs
          have e2 := Option.some.inj e2
          subst e2
          exact .inr ⟨p, p', view_dp R ra h1, view_dp R rb h2, hs.1, hs.2, q.now R ⟨trivial, rfl⟩⟩
        · cases e2
      · cases e2
/-! ### is None -/
def isNonD (a b : D) (M : Mem) : Fl D := match a, b with
  | .non, .non => .ok (.bl true) M
  | _, .non => .ok (.bl false) M
  | _, _ => .fail
def isNotD (a b : D) (M : Mem) : Fl D := match a, b with
  | .non, .non => .ok (.bl false) M
  | _, .non => .ok (.bl true) M
  | _, _ => .fail
theorem nonV {Fz : Hp} {ι : Nat → Addr} : ∀ {a : D} {x : V}, RepV K Fz ι a x → (x = .non ↔ a = .non)
  | .non, _, r => by
    have r : _ = V.non := r
    simp [r]
  | .bl b, _, r => by
    have r : _ = V.bl b := r
    simp [r]
  | .int b, _, r => by
    have r : _ = V.int b := r
    simp [r]
  | .str b, _, r => by
    have r : _ = V.str b := r
    simp [r]
  | .tup b, _, r => by
    obtain ⟨_, _, r, _⟩ := r
    simp [r]
  | .lst b, _, r => by
    obtain ⟨_, _, r, _⟩ := r
    simp [r]
  | .scr b, _, r => by
    obtain ⟨_, _, r, _⟩ := r
    simp [r]
  | .ptr b, _, r => by
    have r : _ = V.ref (ι b) := r
    simp [r]
theorem os_isN : OpS K wd E (fun x y H Q => y = .non ∧ Q (.bl (decide (x = .non))) H) isNonD := by
  intro Fz H ι M a b x y Q R ba bb ra rb q
  cases b with
  | non =>
    refine ⟨rb, ?_⟩
    by_cases h : a = .non
    · subst h
      have ra : x = _ := ra
      subst ra
      exact q.now R ⟨trivial, rfl⟩
    · have hx : ¬ x = .non := fun e => h ((nonV ra).mp e)
      rw [decide_eq_false hx]
      cases a <;> first
        | exact absurd rfl h
        | exact q.now R ⟨trivial, rfl⟩
  | _ => cases a <;> exact q.elim
theorem os_notN : OpS K wd E (fun x y H Q => y = .non ∧ Q (.bl (!decide (x = .non))) H) isNotD := by
  intro Fz H ι M a b x y Q R ba bb ra rb q
  cases b with
  | non =>
    refine ⟨rb, ?_⟩
    by_cases h : a = .non
    · subst h
      have ra : x = _ := ra
      subst ra
      exact q.now R ⟨trivial, rfl⟩
    · have hx : ¬ x = .non := fun e => h ((nonV ra).mp e)
      rw [decide_eq_false hx]
      cases a <;> first
        | exact absurd rfl h
        | exact q.now R ⟨trivial, rfl⟩
  | _ => cases a <;> exact q.elim
end

/-! ### items -/
def ixD (a i : D) (M : Mem) : Fl D := match i with
  | .int k => match a with
    | .str z => if z.length ≤ 1000000 then match atI z.cps.toList k with
        | some c => .ok (.str ⟨#[c]⟩) M
        | none => .fail
      else .fail
    | a => match itemsD M a with
      | some l => match atI l k with
        | some d => .ok d M
        | none => .fail
      | none => .fail
  | _ => .fail
section
variable {X : Cx} {K : PySem.W.Frag} {wd : World} {E : XK}
theorem RepL.atI {Fz : Hp} {ι : Nat → Addr} {l : List D} {vs : List V} {k : Int} {d : D} (r : RepL K Fz ι l vs) (h : L2.atI l k = some d) : ∃ v, L2.atI vs k = some v ∧ RepV K Fz ι d v := by
  unfold L2.atI at h ⊢
  rw [← r.len]
  cases e : ixN l.length k with
  | none => rw [e] at h; cases h
  | some j =>
    rw [e] at h
    exact RepL.get r h
theorem bndL_atI {n : Nat} {l : List D} {k : Int} {d : D} (b : bndL n l) (h : L2.atI l k = some d) : bnd n d := by
  unfold L2.atI at h
  cases e : ixN l.length k with
  | none => rw [e] at h; cases h
  | some j =>
    rw [e] at h
    exact bndL_get b h
theorem os_ix : OpS K wd E (rIx K) ixD := by
  intro Fz H ι M a b x y Q R ba bb ra rb q
  unfold ixD at q
  cases b with
  | int k =>
    dsimp only at q
    have seq : ∀ {l}, itemsD M a = some l → Post K wd E Fz H ι M.length (RD K) Q (match L2.atI l k with
        | some d => .ok d M
        | none => .fail) → rIx K x y H Q := fun {l} e q => by
      obtain ⟨bl, p, vs, ex, hs, rl, hl⟩ := items_ok R ba ra e
      cases e2 : L2.atI l k with
      | none => rw [e2] at q; exact q.elim
      | some d =>
        rw [e2] at q
        obtain ⟨v, hv, rv⟩ := rl.atI e2
        have fin := q.now R ⟨bndL_atI bl e2, rv⟩
        rcases hs with hs | hs
        · exact .inl ⟨p, vs, k, v, ex, rb, hs, hv, fin⟩
        · exact .inr (.inl ⟨p, vs, k, v, ex, rb, hs, hv, fin⟩)
    cases a with
    | str z =>
      dsimp only at q
      split at q
      · rename_i hz
        cases e2 : L2.atI z.cps.toList k with
        | none => rw [e2] at q; exact q.elim
        | some c =>
          rw [e2] at q
          exact .inr (.inr ⟨z, k, c, ra, rb, small6 hz, e2, q.now R ⟨trivial, rfl⟩⟩)
      · exact q.elim
    | tup l' => exact seq (l := l') rfl q
    | lst l' => exact seq (l := l') rfl q
    | scr l' => exact seq (l := l') rfl q
    | ptr j =>
      dsimp only at q
      cases e : itemsD M (.ptr j) with
      | none => rw [e] at q; exact q.elim
      | some l => rw [e] at q; exact seq e q
    | _ => exact q.elim
  | _ => exact q.elim
end

/-! ### len, min, max, isinstance -/
def lenD (l : List D) (M : Mem) : Fl D := match l with
  | [.str z] => if z.length ≤ 1000000 then .ok (.int z.length) M else .fail
  | [a] => match itemsD M a with
    | some l => .ok (.int l.length) M
    | none => .fail
  | _ => .fail
section
variable {X : Cx} {K : PySem.W.Frag} {wd : World} {E : XK}
theorem CallR.or {f : Value} {r r' : List V → Hp → VK → Prop} (h : CallR X f r) (h' : CallR X f r') : CallR X f (fun x H Q => r x H Q ∨ r' x H Q) := by
  intro pins s σ H x u Q I rx q
  rcases q with q | q
  · exact h pins s σ H x u Q I rx q
  · exact h' pins s σ H x u Q I rx q
theorem RepL.one {Fz : Hp} {ι : Nat → Addr} {a : D} {vs : List V} (r : RepL K Fz ι [a] vs) : ∃ x, vs = [x] ∧ RepV K Fz ι a x := by
  obtain ⟨v, r', e, q, q'⟩ := r
  have q' : r' = [] := q'
  subst q'
  exact ⟨v, e, q⟩
theorem RepL.two {Fz : Hp} {ι : Nat → Addr} {a b : D} {vs : List V} (r : RepL K Fz ι [a, b] vs) : ∃ x y, vs = [x, y] ∧ RepV K Fz ι a x ∧ RepV K Fz ι b y := by
  obtain ⟨v, r', e, q, q'⟩ := r
  obtain ⟨y, e', q2⟩ := q'.one
  subst e'
  exact ⟨v, y, e, q, q2⟩
def rLenA (K : PySem.W.Frag) : List V → Hp → VK → Prop := fun xs H Q => (∃ p ys, xs = [.ref p] ∧ (SqL K H p ys ∨ SqT K H p ys) ∧ Q (.int ys.length) H) ∨ ∃ z, xs = [.str z] ∧ z.length ≤ sizeLine ∧ Q (.int z.length) H
theorem cr_lenA : CallR X (.builtin "len") (rLenA X.K) := CallR.or call_len_seq call_len_str
theorem cs_len : CaS K wd E (rLenA K) lenD := by
  intro Fz H ι M l vs Q R b r q
  unfold lenD at q
  have seq : ∀ {a l'}, l = [a] → itemsD M a = some l' → Post K wd E Fz H ι M.length (RD K) Q (.ok (.int l'.length) M) → rLenA K vs H Q := fun {a l'} el e q2 => by
    rw [el] at r b
    obtain ⟨x, ev, rx⟩ := r.one
    obtain ⟨bl, p, ws, ex, hs, rl, hl⟩ := items_ok R b.1 rx e
    subst ev ex
    exact .inl ⟨p, ws, rfl, hs, by rw [← rl.len]; exact q2.now R ⟨trivial, rfl⟩⟩
  split at q
  · rename_i z
    split at q
    · rename_i hz
      obtain ⟨x, ev, rx⟩ := r.one
      have rx : x = V.str z := rx
      subst ev rx
      exact .inr ⟨z, rfl, small6 hz, q.now R ⟨trivial, rfl⟩⟩
    · exact q.elim
  · rename_i a _
    cases e : itemsD M a with
    | some l' => rw [e] at q; exact seq rfl e q
    | none => rw [e] at q; exact q.elim
  · exact q.elim
def minD (l : List D) (M : Mem) : Fl D := match l with
  | [.int i, .int j] => .ok (.int (if j < i then j else i)) M
  | _ => .fail
def maxD (l : List D) (M : Mem) : Fl D := match l with
  | [.int i, .int j] => .ok (.int (if j > i then j else i)) M
  | _ => .fail
theorem cs_min2 : CaS K wd E (fun xs H Q => ∃ i j, xs = [.int i, .int j] ∧ Q (.int (if j < i then j else i)) H) minD := by
  intro Fz H ι M l vs Q R b r q
  unfold minD at q
  split at q
  · rename_i i j
    obtain ⟨x, y, ev, rx, ry⟩ := r.two
    have rx : x = V.int i := rx
    have ry : y = V.int j := ry
    subst ev rx ry
    exact ⟨i, j, rfl, q.now R ⟨trivial, rfl⟩⟩
  · exact q.elim
theorem cs_max2 : CaS K wd E (fun xs H Q => ∃ i j, xs = [.int i, .int j] ∧ Q (.int (if j > i then j else i)) H) maxD := by
  intro Fz H ι M l vs Q R b r q
  unfold maxD at q
  split at q
  · rename_i i j
    obtain ⟨x, y, ev, rx, ry⟩ := r.two
    have rx : x = V.int i := rx
    have ry : y = V.int j := ry
    subst ev rx ry
    exact ⟨i, j, rfl, q.now R ⟨trivial, rfl⟩⟩
  · exact q.elim
def strD (l : List D) (M : Mem) : Fl D := match l with
  | [.int i] => if i.natAbs.log2 < 1920 then .ok (.str (toString i)) M else .fail
  | _ => .fail
theorem cs_str : CaS K wd E (fun xs H Q => ∃ i, xs = [.int i] ∧ i.natAbs.log2 < 1920 ∧ Q (.str (toString i)) H) strD := by
  intro Fz H ι M l vs Q R b r q
  unfold strD at q
  split at q
  · rename_i i
    split at q
    · rename_i hi
      obtain ⟨x, ev, rx⟩ := r.one
      have rx : x = V.int i := rx
      subst ev rx
      exact ⟨i, rfl, hi, q.now R ⟨trivial, rfl⟩⟩
    · exact q.elim
  · exact q.elim
/-- the built-in type of a value -/
def tyD (M : Mem) : D → Option String
  | .non => some "NoneType" | .bl _ => some "bool" | .int _ => some "int" | .str _ => some "str" | .tup _ => none | .lst _ => some "list" | .scr _ => none
  | .ptr k => match M[k]? with
    | some (.lst _) => some "list"
    | _ => none
/-- isinstance(x, T), T a built-in type -/
def isiD (T : String) (a : D) (M : Mem) : Fl D := match tyD M a with
  | some t => match kitB t T with
    | some b => .ok (.bl b) M
    | none => .fail
  | none => match a with
    | .tup _ => match kitB "tuple" T with
      | some b => .ok (.bl b) M
      | none => .fail
    | _ => .fail
theorem tyD_ok {Fz H : Hp} {ι : Nat → Addr} {M : Mem} {a : D} {x : V} {t : String} (R : Rel K wd Fz H ι M) (ra : RepV K Fz ι a x) (h : tyD M a = some t) : TyX K H x (.type t) := by
  cases a with
  | ptr k =>
    unfold tyD at h
    dsimp only at h
    have ra : x = _ := ra
    subst ra
    split at h
    · rename_i l e
      have h := Option.some.inj h
      subst h
      obtain ⟨_, vs, e1, _⟩ := R.ob k _ e
      exact .base (.lst e1)
    · cases h
  | lst l =>
    have h := Option.some.inj h
    subst h
    obtain ⟨p, vs, e, s, _⟩ := ra
    subst e
    exact .base (.lst (R.fz _ _ s))
  | tup l => cases h
  | scr l => cases h
  | non =>
    have h := Option.some.inj h
    have ra : x = _ := ra
    subst h ra
    exact .base .non
  | bl b =>
    have h := Option.some.inj h
    have ra : x = _ := ra
    subst h ra
    exact .base (.bl b)
  | int b =>
    have h := Option.some.inj h
    have ra : x = _ := ra
    subst h ra
    exact .base (.int b)
  | str b =>
    have h := Option.some.inj h
    have ra : x = _ := ra
    subst h ra
    exact .base (.str b)
theorem tup_tyX {H : Hp} {p : Addr} {vs : List V} (h : SqT K H p vs) : TyX K H (.ref p) (.type "tuple") := by
  rcases h with (h | ⟨o, h⟩) | ⟨o, its, n, h, c, _⟩
  · exact .base (.tup h)
  · exact .fTuple h
  · exact .kTuple h c
theorem xe_isi {a : Expr} {T : Str} {n : String} {p p2 pos : Pos} {fa : EF} (ha : XE X E a fa) (hm : X.mg "isinstance" = none) (hT : X.mg T = none) (hv : bootBuiltins T = some (.type n)) (hg : Gl X "isinstance" := by rfl) (hgT : Gl X T := by rfl) (hb : bootBuiltins "isinstance" = some (.builtin "isinstance") := by decide +kernel)
    (hn : T ≠ "__name__" := by decide) (hd : (T == ("__debug__" : Str)) = false := by decide)
    (he : starEach [a, .Name T p2] X.env = (false, eval a X.env) :: starEach [.Name T p2] X.env := by rfl) (hs : starEach [.Name T p2] X.env = (false, eval (.Name T p2) X.env) :: starEach [] X.env := by rfl) (hpl : (backTo pos (starEach [.Name T p2] X.env)).any (·.1) = false := by rfl) :
    XE X E (.Call (.Name "isinstance" p) [a, .Name T p2] [] pos) (eUn (isiD n) fa) := by
  refine (pe_callB call_isi hg hm hb (pa_cons ha (pa_cons (pe_bltn (v := .ty n) hgT hT hv rfl hn hd) pa_nil hs) he) (by decide) (by decide) he hpl).imp ?_
  rintro σ H Q ⟨Fz, ι, M, ρ, S, q⟩
  refine ⟨Fz, ι, M, ρ, S, q.first fun a M1 Fz1 H1 ι1 x g1 R1 ra q1 => ?_⟩
  unfold isiD at q1
  cases e : tyD M1 a with
  | some t =>
    rw [e] at q1
    dsimp only at q1
    cases e2 : kitB t n with
    | none => rw [e2] at q1; exact q1.elim
    | some b =>
      rw [e2] at q1
      exact ⟨x, .ty n, .type t, .type n, b, rfl, .ty n, tyD_ok R1 ra.2 e, kit_ty e2, q1.now R1 ⟨trivial, rfl⟩⟩
  | none =>
    rw [e] at q1
    cases a with
    | tup l =>
      dsimp only at q1
      cases e2 : kitB "tuple" n with
      | none => rw [e2] at q1; exact q1.elim
      | some b =>
        rw [e2] at q1
        obtain ⟨p, vs, ex, hs, _⟩ := ra.2
        subst ex
        exact ⟨.ref p, .ty n, .type "tuple", .type n, b, rfl, .ty n, tup_tyX (SqT.up R1.fz hs), kit_ty e2, q1.now R1 ⟨trivial, rfl⟩⟩
    | _ => exact q1.elim
end
end MM

/-! MMd: targets, what is walked, loops, comprehensions, methods, slices. -/
namespace MM
open PySem PySem.Spec PyProof.Rows L2

/-! ### targets -/
abbrev GF := D → Ro → Option Ro
abbrev GsF := List D → Ro → Option Ro
/-- the slots vs alone have changed -/
def Off (vs : List Nat) (σ σ' : L2.St) : Prop := σ'.length = σ.length ∧ ∀ j, j ∉ vs → σ'[j]? = σ[j]?
theorem Off.refl (vs : List Nat) (σ : L2.St) : Off vs σ σ := ⟨rfl, fun _ _ => rfl⟩
theorem Off.trans {a b : List Nat} {σ σ1 σ2 : L2.St} (h : Off a σ σ1) (k : Off b σ1 σ2) : Off (a ++ b) σ σ2 :=
  ⟨k.1.trans h.1, fun j hj => by
    rw [List.mem_append, not_or] at hj
    exact (k.2 j hj.2).trans (h.2 j hj.1)⟩
theorem Off.set (i : Nat) (σ : L2.St) (x : Option V) : Off [i] σ (σ.set i x) :=
  ⟨by rw [List.length_set], fun j hj => List.getElem?_set_ne fun z => hj (by rw [z]; exact List.mem_singleton.mpr rfl)⟩
theorem wipe_get : ∀ (vs : List Nat) (σ : L2.St) (j : Nat), (L2.wipe σ vs)[j]? = if j ∈ vs then (if j < σ.length then some none else none) else σ[j]?
  | [], σ, j => by simp [L2.wipe]
  | v :: vs, σ, j => by
    unfold L2.wipe
    by_cases h : v = j
    · subst h
      rw [if_pos List.mem_cons_self]
      by_cases hl : v < σ.length
      · rw [if_pos hl, List.getElem?_set_self (by rw [wipe_length]; exact hl)]
      · rw [if_neg hl, List.getElem?_eq_none (by rw [List.length_set, wipe_length]; omega)]
    · rw [List.getElem?_set_ne h, wipe_get vs σ j]
      by_cases hm : j ∈ vs
      · rw [if_pos hm, if_pos (List.mem_cons_of_mem _ hm)]
      · rw [if_neg hm, if_neg (fun z => (List.mem_cons.mp z).elim (fun e => h e.symm) hm)]
theorem Off.wipe {vs : List Nat} {σ σ' : L2.St} (h : Off vs σ σ') : L2.wipe σ' vs = L2.wipe σ vs := by
  refine List.ext_getElem? fun j => ?_
  rw [wipe_get, wipe_get, h.1]
  by_cases hm : j ∈ vs
  · rw [if_pos hm, if_pos hm]
  · rw [if_neg hm, if_neg hm]
    exact h.2 j hm
theorem Off.of_wipe (vs : List Nat) (σ : L2.St) : Off vs σ (L2.wipe σ vs) :=
  ⟨wipe_length σ vs, fun j hj => by rw [wipe_get, if_neg hj]⟩
def wT (K : PySem.W.Frag) (wd : World) (vs : List Nat) (g : GF) : TG := fun v σ H Q => ∃ Fz ι M ρ d ρ', Sim K wd Fz H ι M ρ σ ∧ bnd M.length d ∧ RepV K Fz ι d v ∧ g d ρ = some ρ' ∧ ∀ σ', Sim K wd Fz H ι M ρ' σ' → Off vs σ σ' → Q σ' H
def wTs (K : PySem.W.Frag) (wd : World) (vs : List Nat) (g : GsF) : TGs := fun v σ H Q => ∃ Fz ι M ρ d ρ', Sim K wd Fz H ι M ρ σ ∧ bndL M.length d ∧ RepL K Fz ι d v ∧ g d ρ = some ρ' ∧ ∀ σ', Sim K wd Fz H ι M ρ' σ' → Off vs σ σ' → Q σ' H
theorem _root_.L2.PGs.imp {X : Cx} {e : List Expr} {t t' : TGs} (h : PGs X e t) (i : ∀ v σ H Q, t' v σ H Q → t v σ H Q) : PGs X e t' := ⟨fun pins s σ H v u Q I r q => h.run pins s σ H v u Q I r (i v σ H Q q)⟩
def gNm (i : Nat) : GF := fun d ρ => some (ρ.set i (some d))
def gN : GsF := fun l ρ => match l with
  | [] => some ρ
  | _ => none
def gC (g : GF) (r : GsF) : GsF := fun l ρ => match l with
  | d :: l => (g d ρ).bind fun ρ1 => r l ρ1
  | [] => none
/-- a, b = a tuple of n -/
def gTp (n : Nat) (g : GsF) : GF := fun d ρ => match d with
  | .tup l => if l.length = n then g l ρ else none
  | _ => none
section
variable {X : Cx} {E : XK} {pos : Pos} {e : Expr} {es : List Expr} {g : GF} {r : GsF} {ws us : List Nat}
theorem xg_name {i : Nat} {x : Str} (hN : X.N.Nodup) (hi : X.N[i]? = some x := by rfl) (hx : Loc X.env.scope x := by first | exact Or.inl rfl | exact Or.inr rfl) (hf : X.fn x = true ∨ X.env.scope.names.lookup x = some .local := by first | exact .inl rfl | exact .inr rfl | assumption) :
    PG X (.Name x pos) (wT X.K X.w [i] (gNm i)) := (pg_name hN hi hx hf).imp (by
  rintro v σ H Q ⟨Fz, ι, M, ρ, d, ρ', S, b, r, e, k⟩
  have e : ρ.set i (some d) = ρ' := Option.some.inj e
  subst e
  exact k _ (S.set i b r) (Off.set i σ (some v)))
theorem xgs_nil : PGs X [] (wTs X.K X.w [] gN) := pgs_nil.imp (by
  rintro v σ H Q ⟨Fz, ι, M, ρ, l, ρ', S, b, r, e, k⟩
  cases l with
  | nil =>
    have e : ρ = ρ' := Option.some.inj e
    subst e
    exact ⟨r, k _ S (Off.refl _ _)⟩
  | cons _ _ => cases e)
theorem xgs_cons (h1 : PG X e (wT X.K X.w us g)) (h2 : PGs X es (wTs X.K X.w ws r)) (hs : (assignEach (e :: es) X.env).map (·.2) = assign e X.env :: (assignEach es X.env).map (·.2) := by rfl) : PGs X (e :: es) (wTs X.K X.w (us ++ ws) (gC g r)) := (pgs_cons h1 h2 hs).imp (by
  rintro v σ H Q ⟨Fz, ι, M, ρ, l, ρ', S, b, rl, e, k⟩
  cases l with
  | nil => cases e
  | cons d l =>
    obtain ⟨x, xs, ev, rx, rxs⟩ := rl
    unfold gC at e
    dsimp only at e
    cases e1 : g d ρ with
    | none => rw [e1] at e; cases e
    | some ρ1 =>
      rw [e1] at e
      exact ⟨x, xs, ev, Fz, ι, M, ρ, d, ρ1, S, b.1, rx, e1, fun σ' S' o1 => ⟨Fz, ι, M, ρ1, l, ρ', S', b.2, rxs, e, fun σ2 S2 o2 => k σ2 S2 (o1.trans o2)⟩⟩)
theorem xg_tup {k : Nat} {n : Nat} (hc : X.calm = true) (h : PGs X es (wTs X.K X.w ws r)) (hn : (assignEach es X.env).length = n := by rfl) (hst : (assignEach es X.env).findIdx? (·.1) = none := by rfl) : PG X (.Tuple es k pos) (wT X.K X.w ws (gTp n r)) := (pg_tup hc h hn hst).imp (by
  rintro v σ H Q ⟨Fz, ι, M, ρ, d, ρ', S, b, rl, e, k⟩
  cases d with
  | tup l =>
    obtain ⟨a, vs, ev, hs, rl⟩ := rl
    unfold gTp at e
    dsimp only at e
    split at e
    · rename_i hl
      exact ⟨a, vs, ev, SqT.up S.rel.fz hs, by rw [← rl.len]; exact hl, Fz, ι, M, ρ, l, ρ', S, b, rl, e, k⟩
    · cases e
  | _ => cases e)
/-- a, b = e -/
def sTgt (g : GF) (f : EF) : SF := fun ρ M => (f ρ M).bind fun d M1 => match g d ρ with
  | some ρ' => .ok (.nx ρ') M1
  | none => .fail
theorem xs_asg {tg : Expr} {f : EF} (he : XE X E e f) (hg : PG X tg (wT X.K X.w ws g)) (hs : swapsWithSole [tg] e pos.line X.env = pure false := by rfl) (hw : swappedStores [tg] e X.env = pure none := by rfl)
    (h1 : (assignEach [tg] X.env).map (·.2) = [assign tg X.env] := by rfl) : XS X E (.Assign [tg] e pos) (sTgt g f) := (ps_asg he hg hs hw h1).imp (by
  rintro D σ H ⟨Fz, ι, M, ρ, S, q⟩
  refine ⟨Fz, ι, M, ρ, S, q.first fun d M1 Fz1 H1 ι1 x g1 R1 ra q1 => ?_⟩
  cases e1 : g d ρ with
  | none => rw [e1] at q1; exact q1.elim
  | some ρ' =>
    rw [e1] at q1
    exact ⟨Fz1, ι1, M1, ρ, d, ρ', S.grow g1 R1, ra.1, ra.2, e1, fun σ' S' _ => q1.nxt S'⟩)
end

/-! ### what is walked -/
structure Wk where
  items : List D
  /-- the changing list that is walked -/
  w : Option Nat
def Wk.ok (it : Wk) (M : Mem) : Prop := match it.w with
  | none => True
  | some k => M[k]? = some (.lst it.items)
noncomputable instance (it : Wk) (M : Mem) : Decidable (it.ok M) := Classical.propDecidable _
@[simp] theorem Wk.ok_none {l : List D} {M : Mem} : Wk.ok ⟨l, none⟩ M := trivial
@[simp] theorem Wk.ok_some {l : List D} {M : Mem} {k : Nat} : Wk.ok ⟨l, some k⟩ M ↔ M[k]? = some (.lst l) := Iff.rfl
abbrev IF := Ro → Mem → Fl Wk
/-- the walk J yields these items -/
def RI (K : PySem.W.Frag) (wd : World) : Hp → (Nat → Addr) → Nat → Wk → It → Prop := fun F0 ι0 n0 it J => bndL n0 it.items ∧
  ∀ Fz H ι M, (∀ a o, F0 a = some o → Fz a = some o) → (∀ k, k < n0 → ι k = ι0 k) → n0 ≤ M.length → Rel K wd Fz H ι M → it.ok M →
    (∀ (i : Nat) (d : D), it.items[i]? = some d → J.go i H ∧ ∀ x H', J.yld i H x H' → ∃ Fz', Grow Fz H ι M.length Fz' H' ι M.length ∧ Rel K wd Fz' H' ι M ∧ RepV K Fz' ι d x) ∧ J.stop it.items.length H
def wI (K : PySem.W.Frag) (wd : World) (E : XK) (f : IF) : TI := fun σ H R => ∃ Fz ι M ρ, Sim K wd Fz H ι M ρ σ ∧ Post K wd E Fz H ι M.length (RI K wd) R (f ρ M)
theorem _root_.L2.PI.imp {X : Cx} {tg e : Expr} {t t' : TI} (h : PI X tg e t) (i : ∀ σ H Q, t' σ H Q → t σ H Q) : PI X tg e t' := ⟨fun pins s σ H Q I q => h.run pins s σ H Q I (i σ H Q q)⟩
abbrev XI (X : Cx) (E : XK) (tg e : Expr) (f : IF) : Prop := PI X tg e (wI X.K X.w E f)
/-- a list -/
def iL (f : EF) : IF := fun ρ M => (f ρ M).bind fun d M1 => match d with
  | .lst l => .ok ⟨l, none⟩ M1
  | .scr l => .ok ⟨l, none⟩ M1
  | .ptr k => match M1[k]? with
    | some (.lst l) => .ok ⟨l, some k⟩ M1
    | _ => .fail
  | _ => .fail
def iT (f : EF) : IF := fun ρ M => (f ρ M).bind fun d M1 => match d with
  | .tup l => .ok ⟨l, none⟩ M1
  | _ => .fail
theorem it_list {K : PySem.W.Frag} {wd : World} {F0 : Hp} {ι0 : Nat → Addr} {n0 : Nat} {l : List D} {a : Addr} {w : Option Nat} (b : bndL n0 l)
    (h : ∀ Fz H ι M, (∀ a o, F0 a = some o → Fz a = some o) → (∀ k, k < n0 → ι k = ι0 k) → n0 ≤ M.length → Rel K wd Fz H ι M → Wk.ok ⟨l, w⟩ M → ∃ vs, SqL K H a vs ∧ RepL K Fz ι l vs) : RI K wd F0 ι0 n0 ⟨l, w⟩ (Itl K a) := by
  refine ⟨b, fun Fz H ι M h1 h2 h3 R ok => ?_⟩
  obtain ⟨vs, hs, rl⟩ := h Fz H ι M h1 h2 h3 R ok
  refine ⟨fun i d e => ?_, ⟨vs, hs, by rw [rl.len]; exact Nat.le_refl _⟩⟩
  obtain ⟨v, hv, rv⟩ := rl.get e
  refine ⟨⟨vs, v, hs, hv⟩, fun x H' y => ?_⟩
  obtain ⟨e1, y⟩ := y
  subst e1
  have e2 := (y vs hs).symm.trans hv
  cases e2
  exact ⟨Fz, Grow.refl _ _ _ _, R, rv⟩
section
variable {X : Cx} {E : XK} {tg e : Expr} {f : EF} {pos p : Pos} {K : PySem.W.Frag} {wd : World}
theorem xi_list (h : XE X E e f) : XI X E tg e (iL f) := (pi_list h).imp (by
  rintro σ H R ⟨Fz, ι, M, ρ, S, q⟩
  refine ⟨Fz, ι, M, ρ, S, q.first fun d M1 Fz1 H1 ι1 x g1 R1 ra q1 => ?_⟩
  cases d with
  | lst l =>
    obtain ⟨a, vs, ex, hs, rl⟩ := ra.2
    have hl : SqL X.K H1 a vs := SqL.of (R1.fz _ _ hs)
    exact ⟨a, ex, ⟨vs, hl⟩, q1.now R1 (it_list ra.1 fun Fz2 H2 ι2 M2 h1 h2 h3 R2 _ => ⟨vs, SqL.of (R2.fz _ _ (h1 _ _ hs)), RepL.up h1 h2 l vs ra.1 rl⟩)⟩
  | scr l =>
    obtain ⟨a, vs, ex, hs, rl⟩ := ra.2
    exact ⟨a, ex, ⟨vs, SqL.up R1.fz hs⟩, q1.now R1 (it_list ra.1 fun Fz2 H2 ι2 M2 h1 h2 h3 R2 _ => ⟨vs, SqL.up R2.fz (SqL.up h1 hs), RepL.up h1 h2 l vs ra.1 rl⟩)⟩
  | ptr k =>
    dsimp only at q1
    split at q1
    · rename_i l e
      obtain ⟨_, vs, e1, rl⟩ := R1.ob k _ e
      have ex : x = .ref (ι1 k) := ra.2
      refine ⟨ι1 k, ex, ⟨vs, SqL.of e1⟩, q1.now R1 (it_list (R1.wf k _ e) fun Fz2 H2 ι2 M2 h1 h2 h3 R2 ok => ?_)⟩
      have ok : M2[k]? = some (.lst l) := ok
      obtain ⟨_, vs2, e2, rl2⟩ := R2.ob k _ ok
      rw [h2 k ra.1] at e2
      exact ⟨vs2, SqL.of e2, rl2⟩
    · exact q1.elim
  | _ => exact q1.elim)
theorem xi_tup (h : XE X E e f) : XI X E tg e (iT f) := (pi_tup h).imp (by
  rintro σ H R ⟨Fz, ι, M, ρ, S, q⟩
  refine ⟨Fz, ι, M, ρ, S, q.first fun d M1 Fz1 H1 ι1 x g1 R1 ra q1 => ?_⟩
  cases d with
  | tup l =>
    obtain ⟨a, vs, ex, hs, rl⟩ := ra.2
    refine ⟨a, ex, ⟨vs, SqT.up R1.fz hs⟩, q1.now R1 ⟨ra.1, fun Fz2 H2 ι2 M2 h1 h2 h3 R2 _ => ?_⟩⟩
    have hs2 : SqT X.K H2 a vs := SqT.up R2.fz (SqT.up h1 hs)
    have rl2 : RepL X.K Fz2 ι2 l vs := RepL.up h1 h2 l vs ra.1 rl
    refine ⟨fun i d e => ?_, ⟨vs, hs2, by rw [rl.len]; exact Nat.le_refl _⟩⟩
    obtain ⟨v, hv, rv⟩ := rl2.get e
    refine ⟨⟨vs, v, hs2, hv⟩, fun x H' y => ?_⟩
    obtain ⟨e1, y⟩ := y
    subst e1
    have e2 := (y vs hs2).symm.trans hv
    cases e2
    exact ⟨Fz2, Grow.refl _ _ _ _, R2, rv⟩
  | _ => exact q1.elim)
/-- range -/
def rangeL (lo : Int) (n : Nat) : List D := (List.range n).map fun i => D.int (lo + (i : Nat))
def iR1 (fa : EF) : IF := fun ρ M => (fa ρ M).bind fun d M1 => match d with
  | .int j => if j < 1000000 ∧ -1000000 < j then .ok ⟨rangeL 0 j.toNat, none⟩ M1 else .fail
  | _ => .fail
def iR2 (fa fb : EF) : IF := fun ρ M => (fa ρ M).bind fun a M1 => (fb ρ M1).bind fun b M2 => match a, b with
  | .int i, .int j => if (-1000000 < i ∧ i < 1000000) ∧ (j < 1000000 ∧ -1000000 < j) then .ok ⟨rangeL i (j - i).toNat, none⟩ M2 else .fail
  | _, _ => .fail
theorem bnd_range (lo : Int) (n m : Nat) : bndL m (rangeL lo n) := bndL_iff.mpr fun d hd => by
  unfold rangeL at hd
  obtain ⟨i, _, rfl⟩ := List.mem_map.mp hd
  trivial
theorem ri_range {F0 : Hp} {ι0 : Nat → Addr} {n0 : Nat} (lo : Int) (n : Nat) : RI K wd F0 ι0 n0 ⟨rangeL lo n, none⟩ (Itr lo n) := by
  refine ⟨bnd_range _ _ _, fun Fz H ι M h1 h2 h3 R ok => ⟨fun i d e => ?_, ?_⟩⟩
  · unfold rangeL at e
    rw [List.getElem?_map] at e
    cases e2 : (List.range n)[i]? with
    | none => rw [e2] at e; cases e
    | some j =>
      rw [e2] at e
      have hj : i = j := by
        have := List.getElem?_eq_some_iff.mp e2
        obtain ⟨h, e3⟩ := this
        rw [List.getElem_range] at e3
        exact e3
      subst hj
      have hin : i < n := by
        have := (List.getElem?_eq_some_iff.mp e2).1
        rwa [List.length_range] at this
      have e := Option.some.inj e
      subst e
      refine ⟨hin, fun x H' y => ?_⟩
      obtain ⟨e1, y⟩ := y
      subst e1
      exact ⟨Fz, Grow.refl _ _ _ _, R, y⟩
  · show n ≤ (rangeL lo n).length
    unfold rangeL
    rw [List.length_map, List.length_range]
    exact Nat.le_refl _
theorem xi_range1 {a : Expr} {fa : EF} (ha : XE X E a fa) (hm : X.mg "range" = none) (hg : Gl X "range" := by rfl) (hs : starEach [a] X.env = [(false, eval a X.env)] := by rfl) : XI X E tg (.Call (.Name "range" p) [a] [] pos) (iR1 fa) :=
  (pi_range1 hg hm (pa_cons ha pa_nil hs) hs).imp (by
  rintro σ H R ⟨Fz, ι, M, ρ, S, q⟩
  refine ⟨Fz, ι, M, ρ, S, q.first fun d M1 Fz1 H1 ι1 x g1 R1 ra q1 => ?_⟩
  cases d with
  | int j =>
    dsimp only at q1
    split at q1
    · rename_i hj
      have ex : x = .int j := ra.2
      subst ex
      exact ⟨j, rfl, by omega, by omega, q1.now R1 (ri_range 0 j.toNat)⟩
    · exact q1.elim
  | _ => exact q1.elim)
theorem xi_range2 {a b : Expr} {fa fb : EF} (ha : XE X E a fa) (hb : XE X E b fb) (hm : X.mg "range" = none) (hg : Gl X "range" := by rfl) (hs : starEach [a, b] X.env = [(false, eval a X.env), (false, eval b X.env)] := by rfl) (hs2 : starEach [b] X.env = [(false, eval b X.env)] := by rfl) :
    XI X E tg (.Call (.Name "range" p) [a, b] [] pos) (iR2 fa fb) :=
  (pi_range2 hg hm (pa_cons ha (pa_cons hb pa_nil hs2) (by rw [hs, hs2])) hs hs2).imp (by
  rintro σ H R ⟨Fz, ι, M, ρ, S, q⟩
  refine ⟨Fz, ι, M, ρ, S, q.first fun d M1 Fz1 H1 ι1 x g1 R1 ra q1 => ?_⟩
  refine ⟨Fz1, ι1, M1, ρ, S.grow g1 R1, q1.first fun d2 M2 Fz2 H2 ι2 y g2 R2 rb q2 => ?_⟩
  cases d with
  | int i =>
    cases d2 with
    | int j =>
      dsimp only at q2
      split at q2
      · rename_i hj
        have ex : x = .int i := ra.2
        have ey : y = .int j := rb.2
        subst ex ey
        exact ⟨i, j, rfl, by omega, q2.now R2 (ri_range i (j - i).toNat)⟩
      · exact q2.elim
    | _ => exact q2.elim
  | _ => cases d2 <;> exact q2.elim)
/-- reversed(range(n)) -/
def iRev1 (fa : EF) : IF := fun ρ M => (fa ρ M).bind fun d M1 => match d with
  | .int j => if j < 1000000 ∧ -1000000 < j then .ok ⟨(rangeL 0 j.toNat).reverse, none⟩ M1 else .fail
  | _ => .fail
theorem range_rev_get {n i : Nat} {d : D} (e : (rangeL 0 n).reverse[i]? = some d) : i < n ∧ d = .int ((n : Int) - 1 - i) := by
  unfold rangeL at e
  obtain ⟨h, e2⟩ := List.getElem?_eq_some_iff.mp e
  rw [List.length_reverse, List.length_map, List.length_range] at h
  refine ⟨h, ?_⟩
  rw [List.getElem_reverse, List.getElem_map, List.getElem_range] at e2
  rw [← e2, List.length_map, List.length_range]
  have : ((n - 1 - i : Nat) : Int) = (n : Int) - 1 - i := by omega
  rw [this]
  congr 1
  omega
theorem xi_rev1 {a : Expr} {fa : EF} {p2 pos2 : Pos} (ha : XE X E a fa) (hm : X.mg "range" = none) (hm2 : X.mg "reversed" = none) (hg : Gl X "range" := by rfl) (hg2 : Gl X "reversed" := by rfl) (na : starEach [a] X.env = (false, eval a X.env) :: starEach [] X.env := by rfl)
    (hs : starEach [.Call (.Name "range" p) [a] [] pos] X.env = (false, eval (.Call (.Name "range" p) [a] [] pos) X.env) :: starEach [] X.env := by rfl) :
    XI X E tg (.Call (.Name "reversed" p2) [.Call (.Name "range" p) [a] [] pos] [] pos2) (iRev1 fa) := (pi_revR hg2 hm2 (prg_1 hg hm ha na) hs).imp (by
  rintro σ H R ⟨Fz, ι, M, ρ, S, q⟩
  refine ⟨Fz, ι, M, ρ, S, q.first fun d M1 Fz1 H1 ι1 x g1 R1 ra q1 => ?_⟩
  cases d with
  | int j =>
    dsimp only at q1
    split at q1
    · rename_i hj
      have ex : x = .int j := ra.2
      subst ex
      refine ⟨j, rfl, by omega, by omega, by omega, by omega, q1.now R1 ⟨bndL_iff.mpr fun d hd => ?_, fun Fz2 H2 ι2 M2 h1 h2 h3 R2 ok => ⟨fun i d e => ?_, ?_⟩⟩⟩
      · exact bndL_iff.mp (bnd_range 0 j.toNat _) d (List.mem_reverse.mp hd)
      · obtain ⟨hi, ed⟩ := range_rev_get e
        subst ed
        refine ⟨by show i < (j - 0).toNat; omega, fun x H' y => ?_⟩
        obtain ⟨e1, y⟩ := y
        subst e1
        refine ⟨Fz2, Grow.refl _ _ _ _, R2, ?_⟩
        show x = V.int _
        rw [y]
        congr 1
        omega
      · show (j - 0).toNat ≤ _
        unfold rangeL
        rw [List.length_reverse, List.length_map, List.length_range]
        omega
    · exact q1.elim
  | _ => exact q1.elim)
/-- enumerate(list) -/
def enumL (l : List D) : List D := (l.zipIdx).map fun p => D.tup [.int (p.2 : Nat), p.1]
def iEn (f : EF) : IF := fun ρ M => (f ρ M).bind fun d M1 => match d with
  | .lst l => .ok ⟨enumL l, none⟩ M1
  | .scr l => .ok ⟨enumL l, none⟩ M1
  | _ => .fail
theorem enumL_get {l : List D} {i : Nat} {d : D} (e : (enumL l)[i]? = some d) : ∃ d', l[i]? = some d' ∧ d = .tup [.int (i : Nat), d'] := by
  unfold enumL at e
  rw [List.getElem?_map, List.getElem?_zipIdx] at e
  cases e2 : l[i]? with
  | none => rw [e2] at e; cases e
  | some d' =>
    rw [e2] at e
    have e := Option.some.inj e
    refine ⟨d', rfl, ?_⟩
    rw [← e]
    simp
theorem bnd_enum {n : Nat} {l : List D} (b : bndL n l) : bndL n (enumL l) := bndL_iff.mpr fun d hd => by
  obtain ⟨i, e⟩ := List.getElem?_of_mem hd
  obtain ⟨d', e', rfl⟩ := enumL_get e
  exact ⟨trivial, bndL_get b e', trivial⟩
theorem len_enum (l : List D) : (enumL l).length = l.length := by
  unfold enumL
  rw [List.length_map, List.length_zipIdx]
theorem ri_enum {F0 : Hp} {ι0 : Nat → Addr} {n0 : Nat} {l : List D} {a : Addr} (b : bndL n0 l)
    (h : ∀ Fz H ι M, (∀ a o, F0 a = some o → Fz a = some o) → (∀ k, k < n0 → ι k = ι0 k) → n0 ≤ M.length → Rel K wd Fz H ι M → ∃ vs, SqL K H a vs ∧ RepL K Fz ι l vs) : RI K wd F0 ι0 n0 ⟨enumL l, none⟩ (Ite K a) := by
  refine ⟨bnd_enum b, fun Fz H ι M h1 h2 h3 R ok => ?_⟩
  obtain ⟨vs, hs, rl⟩ := h Fz H ι M h1 h2 h3 R
  refine ⟨fun i d e => ?_, ⟨vs, hs, by
    show vs.length ≤ (enumL l).length
    rw [len_enum, rl.len]
    exact Nat.le_refl _⟩⟩
  obtain ⟨d', e', rfl⟩ := enumL_get e
  obtain ⟨v, hv, rv⟩ := rl.get e'
  refine ⟨⟨vs, v, hs, hv⟩, fun x H' y => ?_⟩
  obtain ⟨T, z, ex, hT, e1, y⟩ := y
  subst ex e1
  have e2 := Option.some.inj ((y vs hs).symm.trans hv)
  subst e2
  obtain ⟨R2, g2⟩ := R.laid (o := .tup [V.int (i : Nat), z]) hT
  exact ⟨_, g2, R2, T, _, rfl, SqT.of upd_same, _, _, rfl, rfl, _, _, rfl, g2.rep (bnd.up h3 _ (bndL_get b e')) rv, rfl⟩
theorem xi_enum {a : Expr} {fa : EF} {elts : List Expr} {kk : Nat} {tpos : Pos} (ha : XE X E a fa) (hm : X.mg "enumerate" = none) (hg : Gl X "enumerate" := by rfl) (hs : starEach [a] X.env = [(false, eval a X.env)] := by rfl) :
    XI X E (.Tuple elts kk tpos) (.Call (.Name "enumerate" p) [a] [] pos) (iEn fa) := (pi_enum hg hm (pa_cons ha pa_nil hs) hs).imp (by
  rintro σ H R ⟨Fz, ι, M, ρ, S, q⟩
  refine ⟨Fz, ι, M, ρ, S, q.first fun d M1 Fz1 H1 ι1 x g1 R1 ra q1 => ?_⟩
  cases d with
  | lst l =>
    obtain ⟨a, vs, ex, hs, rl⟩ := ra.2
    subst ex
    exact ⟨a, vs, rfl, SqL.of (R1.fz _ _ hs), q1.now R1 (ri_enum ra.1 fun Fz2 H2 ι2 M2 h1 h2 h3 R2 => ⟨vs, SqL.of (R2.fz _ _ (h1 _ _ hs)), RepL.up h1 h2 l vs ra.1 rl⟩)⟩
  | scr l =>
    obtain ⟨a, vs, ex, hs, rl⟩ := ra.2
    subst ex
    exact ⟨a, vs, rfl, SqL.up R1.fz hs, q1.now R1 (ri_enum ra.1 fun Fz2 H2 ι2 M2 h1 h2 h3 R2 => ⟨vs, SqL.up R2.fz (SqL.up h1 hs), RepL.up h1 h2 l vs ra.1 rl⟩)⟩
  | _ => exact q1.elim)
/-- a text, sign by sign -/
def signsL (x : Str) : List D := x.cps.toList.map fun c => D.str ⟨#[c]⟩
def iStrF (f : EF) : IF := fun ρ M => (f ρ M).bind fun d M1 => match d with
  | .str x => .ok ⟨signsL x, none⟩ M1
  | _ => .fail
theorem xi_str (h : XE X E e f) : XI X E tg e (iStrF f) := (pi_str h).imp (by
  rintro σ H R ⟨Fz, ι, M, ρ, S, q⟩
  refine ⟨Fz, ι, M, ρ, S, q.first fun d M1 Fz1 H1 ι1 x g1 R1 ra q1 => ?_⟩
  cases d with
  | str z =>
    have ex : x = .str z := ra.2
    subst ex
    refine ⟨z, rfl, q1.now R1 ⟨bndL_iff.mpr fun d hd => ?_, fun Fz2 H2 ι2 M2 h1 h2 h3 R2 ok => ⟨fun i d e => ?_, ?_⟩⟩⟩
    · obtain ⟨c, _, rfl⟩ := List.mem_map.mp hd
      trivial
    · unfold signsL at e
      rw [List.getElem?_map] at e
      cases e2 : z.cps.toList[i]? with
      | none => rw [e2] at e; cases e
      | some c =>
        rw [e2] at e
        have e := Option.some.inj e
        subst e
        have hi : i < z.cps.size := by
          have := (List.getElem?_eq_some_iff.mp e2).1
          rwa [Array.length_toList] at this
        refine ⟨hi, fun x H' y => ?_⟩
        obtain ⟨e1, c', ec, y⟩ := y
        subst e1
        rw [← Array.getElem?_toList] at ec
        have e3 := ec.symm.trans e2
        cases e3
        exact ⟨Fz2, Grow.refl _ _ _ _, R2, y⟩
    · show z.cps.size ≤ _
      unfold signsL
      rw [List.length_map, Array.length_toList]
      exact Nat.le_refl _
  | _ => exact q1.elim)
end

/-! ### for -/
noncomputable def forF (it : Wk) (g : GF) (body : SF) : List D → Ro → Mem → Fl Fw
  | [], ρ, M => if it.ok M then .ok (.nx ρ) M else .fail
  | d :: r, ρ, M => if it.ok M then match g d ρ with
      | some ρ1 => (body ρ1 M).bind fun w M2 => match w with
        | .nx ρ2 => forF it g body r ρ2 M2
        | .ct ρ2 => forF it g body r ρ2 M2
        | .bk ρ2 => .ok (.nx ρ2) M2
        | .rt d => .ok (.rt d) M2
      | none => .fail
    else .fail
noncomputable def sFor (fi : IF) (g : GF) (body : SF) : SF := fun ρ M => (fi ρ M).bind fun it M1 => forF it g body it.items ρ M1
section
variable {X : Cx} {E : XK} {tg iter : Expr} {fi : IF} {g : GF} {body : List Stmt} {f : SF} {pos : Pos} {K : PySem.W.Frag} {wd : World} {ws : List Nat}
theorem for_w : ∀ D σ H, wS K wd E (sFor fi g f) D σ H → tFor (wI K wd E fi) (wT K wd ws g) (wS K wd E f) D σ H := by
  rintro D σ H ⟨Fz, ι, M, ρ, S, q⟩
  refine ⟨Fz, ι, M, ρ, S, q.first fun it M1 F1 H1 ι1 J g1 R1 ra q1 => ?_⟩
  refine ⟨fun i m σ' H' => ∃ Fz2 ι2 M2 ρ2, m = it.items.length - i ∧ i ≤ it.items.length ∧ Grow F1 H1 ι1 M1.length Fz2 H' ι2 M2.length ∧ Sim K wd Fz2 H' ι2 M2 ρ2 σ' ∧ PostS K wd E Fz2 H' ι2 M2.length D (forF it g f (it.items.drop i) ρ2 M2),
    ⟨it.items.length, F1, ι1, M1, ρ, by simp, Nat.zero_le _, Grow.refl _ _ _ _, S.grow g1 R1, by simpa using q1⟩, ?_⟩
  rintro i m σ' H' ⟨Fz2, ι2, M2, ρ2, rfl, hi, g2, S2, q2⟩
  by_cases ok : it.ok M2
  · obtain ⟨hgo, hstop⟩ := ra.2 Fz2 H' ι2 M2 g2.fz g2.io g2.le S2.rel ok
    by_cases hlt : i < it.items.length
    · rw [List.drop_eq_getElem_cons hlt] at q2
      unfold forF at q2
      rw [if_pos ok] at q2
      obtain ⟨hg1, hg2⟩ := hgo i it.items[i] (List.getElem?_eq_getElem hlt)
      have bd : bnd M2.length it.items[i] := bnd.up g2.le _ (bndL_get ra.1 (List.getElem?_eq_getElem hlt))
      refine .inr ⟨hg1, fun σ3 H3 => ∃ Fz3 ι3 M3 ρ3, Grow F1 H1 ι1 M1.length Fz3 H3 ι3 M3.length ∧ Sim K wd Fz3 H3 ι3 M3 ρ3 σ3 ∧ PostS K wd E Fz3 H3 ι3 M3.length D (forF it g f (it.items.drop (i + 1)) ρ3 M3), fun σ3 H3 ⟨Fz3, ι3, M3, ρ3, a, b, c⟩ => ?_, fun x H3 hy => ?_⟩
      · exact ⟨it.items.length - (i + 1), by omega, Fz3, ι3, M3, ρ3, rfl, hlt, a, b, c⟩
      · obtain ⟨Fz3, g3, R3, rx⟩ := hg2 x H3 hy
        have S3 : Sim K wd Fz3 H3 ι2 M2 ρ2 σ' := S2.grow g3 R3
        cases e1 : g it.items[i] ρ2 with
        | none => rw [e1] at q2; exact q2.elim
        | some ρ3 =>
          rw [e1] at q2
          dsimp only at q2
          refine ⟨Fz3, ι2, M2, ρ2, it.items[i], ρ3, S3, bd, rx, e1, fun σ3 S4 _ => ?_⟩
          refine ⟨Fz3, ι2, M2, ρ3, S4, ?_⟩
          have g23 := g2.trans g3
          cases e2 : f ρ3 M2 with
          | fail => rw [e2] at q2; exact q2.elim
          | exc e M4 => rw [e2] at q2; exact PostS.grow g3 q2
          | ok w M4 =>
            rw [e2] at q2
            cases w with
            | nx ρ4 => exact fun Fz4 H4 ι4 σ4 g4 S5 => ⟨Fz4, ι4, M4, ρ4, g23.trans g4, S5, PostS.grow (g3.trans g4) (show PostS _ _ _ _ _ _ _ _ (forF it g f (it.items.drop (i + 1)) ρ4 M4) from q2)⟩
            | ct ρ4 => exact fun Fz4 H4 ι4 σ4 g4 S5 => ⟨Fz4, ι4, M4, ρ4, g23.trans g4, S5, PostS.grow (g3.trans g4) (show PostS _ _ _ _ _ _ _ _ (forF it g f (it.items.drop (i + 1)) ρ4 M4) from q2)⟩
            | bk ρ4 => exact PostS.grow (r := .ok (.nx ρ4) M4) g3 q2
            | rt d => exact PostS.grow (r := .ok (.rt d) M4) g3 q2
    · have hie : i = it.items.length := by omega
      subst hie
      rw [List.drop_length] at q2
      unfold forF at q2
      rw [if_pos ok] at q2
      exact .inl ⟨hstop, q2.nxt S2⟩
  · cases e : it.items.drop i with
    | nil =>
      rw [e] at q2
      unfold forF at q2
      rw [if_neg ok] at q2
      exact q2.elim
    | cons d r =>
      rw [e] at q2
      unfold forF at q2
      rw [if_neg ok] at q2
      exact q2.elim
theorem xs_for (hp : PassesOwn (model X.prog X.w) X.A X.env X.xe) (hc : X.calm = true) (hi : XI X E tg iter fi) (hg : PG X tg (wT X.K X.w ws g)) (hb : XSs X E body f) (hs : ∀ x, foldedSetIterable iter X.env x = pure x := by intro _; rfl) :
    XS X E (.For tg iter body [] pos) (sFor fi g f) := (ps_for hp hc hi hg hb hs).imp for_w
end

/-! ### while -/
def whileF (c : BF) (f : SF) : Nat → Ro → Mem → Fl Fw
  | 0, _, _ => .fail
  | n + 1, ρ, M => (c ρ M).bind fun b M1 => if b = true then (f ρ M1).bind fun w M2 => match w with
      | .nx ρ2 => whileF c f n ρ2 M2
      | .ct ρ2 => whileF c f n ρ2 M2
      | .bk ρ2 => .ok (.nx ρ2) M2
      | .rt d => .ok (.rt d) M2
    else .ok (.nx ρ) M1
def sWhile (N : Nat) (c : BF) (f : SF) : SF := fun ρ M => whileF c f N ρ M
section
variable {X : Cx} {E : XK} {c : Expr} {gc : BF} {body : List Stmt} {f : SF} {pos : Pos} {K : PySem.W.Frag} {wd : World}
theorem while_w (N : Nat) : ∀ D σ H, wS K wd E (sWhile N gc f) D σ H → tWhile (wB K wd E gc) (wS K wd E f) D σ H := by
  rintro D σ H ⟨Fz, ι, M, ρ, S, q⟩
  refine ⟨fun n σ' H' => ∃ Fz ι M ρ, Sim K wd Fz H' ι M ρ σ' ∧ PostS K wd E Fz H' ι M.length D (whileF gc f n ρ M), ⟨N, Fz, ι, M, ρ, S, q⟩, ?_⟩
  rintro n σ1 H1 ⟨F1, ι1, M1, ρ1, S1, q1⟩
  cases n with
  | zero => exact q1.elim
  | succ n =>
    unfold whileF at q1
    refine ⟨F1, ι1, M1, ρ1, S1, q1.first fun b M2 F2 H2 ι2 x g2 R2 rb q2 => ?_⟩
    have rb : x = b := rb
    subst rb
    cases x with
    | false =>
      rw [if_neg Bool.false_ne_true] at q2 ⊢
      exact q2.nxt (S1.grow g2 R2)
    | true =>
      rw [if_pos rfl] at q2 ⊢
      refine ⟨fun σ' H' => ∃ Fz ι M ρ, Sim K wd Fz H' ι M ρ σ' ∧ PostS K wd E Fz H' ι M.length D (whileF gc f n ρ M), fun σ' H' h => ⟨n, Nat.lt_succ_self _, h⟩, F2, ι2, M2, ρ1, S1.grow g2 R2, ?_⟩
      cases e2 : f ρ1 M2 with
      | fail => rw [e2] at q2; exact q2.elim
      | exc e M4 => rw [e2] at q2; exact q2
      | ok w M4 =>
        rw [e2] at q2
        cases w with
        | nx ρ4 => exact fun Fz4 H4 ι4 σ4 g4 S5 => ⟨Fz4, ι4, M4, ρ4, S5, PostS.grow g4 (show PostS _ _ _ _ _ _ _ _ (whileF gc f n ρ4 M4) from q2)⟩
        | ct ρ4 => exact fun Fz4 H4 ι4 σ4 g4 S5 => ⟨Fz4, ι4, M4, ρ4, S5, PostS.grow g4 (show PostS _ _ _ _ _ _ _ _ (whileF gc f n ρ4 M4) from q2)⟩
        | bk ρ4 => exact q2
        | rt d => exact q2
theorem xs_while (N : Nat) (hp : PassesOwn (model X.prog X.w) X.A X.env X.xe) (hc : XT X E c gc) (hb : XSs X E body f) : XS X E (.While c body [] pos) (sWhile N gc f) := (ps_while hp hc hb).imp (while_w N)
end
end MM

/-! MMe: comprehensions, methods, stores, slices, calls, defs. -/
namespace MM
open PySem PySem.Spec PyProof.Rows L2

/-! ### one more thing that the memory does not speak of -/
section
variable {K : PySem.W.Frag} {wd : World} {E : XK} {Fz H Fz' H' : Hp} {ι ι' : Nat → Addr} {n n' : Nat} {M M' : Mem} {p : Addr} {o : HO}
theorem Rel.side (R : Rel K wd Fz H ι M) (h1 : Fz p = none) (h2 : ∀ k, k < M.length → ι k ≠ p) : Rel K wd Fz (upd H p o) ι M := by
  refine ⟨fun a u e => ?_, fun k mo e => ?_, R.wf, fun k hk => ?_, R.inj⟩
  · rw [upd_ne (ne_of_none e h1)]; exact R.fz a u e
  · exact ObM.keep (m := 0) R e (fun _ _ e => e) rfl (fun _ _ => rfl) (upd_ne (h2 k (List.getElem?_eq_some_iff.mp e).1))
  · rw [upd_ne (h2 k hk)]; exact R.occ k hk
theorem Grow.side (g : Grow Fz H ι n Fz' H' ι' n') (h : H p = none) : Grow Fz H ι n Fz' (upd H' p o) ι' n' :=
  ⟨g.fz, g.io, g.le, g.new, fun a u e hk => by rw [upd_ne (ne_of_none e h)]; exact g.fr a u e hk, fun a e => by
    unfold upd; split
    · exact fun z => by cases z
    · exact g.th a e, g.fn⟩
/-- it becomes the memory's last -/
theorem Rel.adopt (R : Rel K wd Fz H ι M) {mo : MO} (h1 : Fz p = none) (h2 : ∀ k, k < M.length → ι k ≠ p) (h3 : H p ≠ none) (b : mo.bnd M.length) (q : ∀ ι', (∀ j, j < M.length → ι' j = ι j) → ObM K wd Fz H ι' p mo) : Rel K wd Fz H (ext ι M.length p) (M ++ [mo]) := by
  have hl : (M ++ [mo]).length = M.length + 1 := by simp
  have io : ∀ j, j < M.length → ext ι M.length p j = ι j := fun j hj => ext_lt hj
  refine ⟨R.fz, fun k m e => ?_, fun k m e => ?_, fun k hk => ?_, fun i j hi' hj' e => ?_⟩
  · by_cases hk : k < M.length
    · rw [List.getElem?_append_left hk] at e
      exact ObM.keep (m := 0) R e (fun _ _ e => e) rfl io rfl
    · have hk2 : k < (M ++ [mo]).length := (List.getElem?_eq_some_iff.mp e).1
      have : k = M.length := by omega
      subst this
      rw [List.getElem?_append_right (Nat.le_refl _), Nat.sub_self] at e
      have e : mo = m := Option.some.inj e
      subst e
      rw [ext_same]
      exact q _ io
  · rw [hl]
    by_cases hk : k < M.length
    · rw [List.getElem?_append_left hk] at e
      exact MO.bnd.up (Nat.le_succ _) m (R.wf k m e)
    · have hk2 : k < (M ++ [mo]).length := (List.getElem?_eq_some_iff.mp e).1
      have : k = M.length := by omega
      subst this
      rw [List.getElem?_append_right (Nat.le_refl _), Nat.sub_self] at e
      have e : mo = m := Option.some.inj e
      subst e
      exact MO.bnd.up (Nat.le_succ _) mo b
  · rw [hl] at hk
    by_cases hk2 : k < M.length
    · rw [io k hk2]; exact R.occ k hk2
    · have : k = M.length := by omega
      subst this
      rw [ext_same]; exact h3
  · rw [hl] at hi' hj'
    by_cases a1 : i < M.length
    · by_cases a2 : j < M.length
      · rw [io i a1, io j a2] at e; exact R.inj i j a1 a2 e
      · have : j = M.length := by omega
        subst this
        rw [ext_same, io i a1] at e
        exact absurd e (h2 i a1)
    · have : i = M.length := by omega
      subst this
      by_cases a2 : j < M.length
      · rw [ext_same, io j a2] at e
        exact absurd e.symm (h2 j a2)
      · omega
/-- it stands for good -/
theorem Rel.freeze (R : Rel K wd Fz H ι M) (h1 : Fz p = none) (h2 : ∀ k, k < M.length → ι k ≠ p) (h3 : H p = some o) : Rel K wd (upd Fz p o) H ι M := by
  have up : ∀ a u, Fz a = some u → upd Fz p o a = some u := fun a u e => by rw [upd_ne (ne_of_none e h1)]; exact e
  refine ⟨fun a u e => ?_, fun k mo e => ?_, R.wf, R.occ, R.inj⟩
  · by_cases q : a = p
    · subst q; rw [upd_same] at e; rw [h3]; exact e
    · rw [upd_ne q] at e; exact R.fz a u e
  · exact ObM.keep (m := 0) R e up (upd_ne (h2 k (List.getElem?_eq_some_iff.mp e).1)) (fun _ _ => rfl) rfl
theorem Grow.freeze (g : Grow Fz H ι n Fz' H' ι' n') (h : H p = none) (h1 : Fz' p = none) : Grow Fz H ι n (upd Fz' p o) H' ι' n' :=
  ⟨fun a u e => by rw [upd_ne (ne_of_none (g.fz a u e) h1)]; exact g.fz a u e, g.io, g.le, g.new, g.fr, g.th, fun a e => by
    by_cases q : a = p
    · exact .inr (.inl (q ▸ h))
    · rw [upd_ne q] at e; exact g.fn a e⟩
theorem Grow.adopt (g : Grow Fz H ι n Fz' H' ι' n') (h : H p = none) : Grow Fz H ι n Fz' H' (ext ι' n' p) (n' + 1) :=
  ⟨g.fz, fun k hk => by rw [ext_lt (Nat.lt_of_lt_of_le hk g.le)]; exact g.io k hk, Nat.le_succ_of_le g.le, fun k h1 h2 => by
    by_cases q : k = n'
    · subst q; rw [ext_same]; exact h
    · rw [ext_lt (by omega)]; exact g.new k h1 (by omega), g.fr, g.th, g.fn⟩
/-- as Post.first, the wish said at an earlier state -/
theorem Post.firstG {α β γ δ : Type} {R1 : Hp → (Nat → Addr) → Nat → α → β → Prop} {Q1 : β → Hp → Prop} {R2 : Hp → (Nat → Addr) → Nat → γ → δ → Prop} {Q2 : δ → Hp → Prop} {k : α → Mem → Fl γ} (g0 : Grow Fz H ι n Fz' H' ι' n') :
    ∀ {r : Fl α}, Post K wd E Fz H ι n R2 Q2 (r.bind k) →
    (∀ a M1 Fz1 H1 ι1 b, Grow Fz' H' ι' n' Fz1 H1 ι1 M1.length → Rel K wd Fz1 H1 ι1 M1 → R1 Fz1 ι1 M1.length a b → Post K wd E Fz H ι n R2 Q2 (k a M1) → Q1 b H1) → Post K wd E Fz' H' ι' n' R1 Q1 r
  | .ok a M1, h, hk => fun Fz1 H1 ι1 b g rel q => hk a M1 Fz1 H1 ι1 b g rel q h
  | .exc e M1, h, _ => Post.grow (r := .exc (α := α) e M1) (R := R1) (Q := Q1) g0 (fun Fz2 H2 ι2 c dx g2 rel q => h Fz2 H2 ι2 c dx g2 rel q)
  | .fail, h, _ => h
end

/-! ### comprehensions -/
def wipeR (ρ : Ro) : List Nat → Ro
  | [] => ρ
  | v :: vs => (wipeR ρ vs).set v none
theorem Sim.wipes {K : PySem.W.Frag} {wd : World} {Fz H : Hp} {ι : Nat → Addr} {M : Mem} {ρ : Ro} {σ : L2.St} (S : Sim K wd Fz H ι M ρ σ) : ∀ vs : List Nat, Sim K wd Fz H ι M (wipeR ρ vs) (L2.wipe σ vs)
  | [] => S
  | v :: vs => (Sim.wipes S vs).wipe v
noncomputable def lcF (it : Wk) (vs : List Nat) (g : GF) (ft : BF) (fe : EF) : List D → Ro → Mem → Fl (List D)
  | [], _, M => if it.ok M then .ok [] M else .fail
  | d :: r, ρ, M => if it.ok M then match g d (wipeR ρ vs) with
      | some ρ1 => (ft ρ1 M).bind fun b M1 => if b = true then (fe ρ1 M1).bind fun y M2 => (lcF it vs g ft fe r ρ M2).bind fun ys M3 => .ok (y :: ys) M3
        else lcF it vs g ft fe r ρ M1
      | none => .fail
    else .fail
/-- a list that stands for good -/
noncomputable def eLcF (fi : IF) (vs : List Nat) (g : GF) (ft : BF) (fe : EF) : EF := fun ρ M => (fi ρ M).bind fun it M1 => if it.items.length ≤ 1000000 then (lcF it vs g ft fe it.items ρ M1).bind fun ys M2 => .ok (.lst ys) M2 else .fail
/-- a list that may change -/
noncomputable def eLcP (fi : IF) (vs : List Nat) (g : GF) (ft : BF) (fe : EF) : EF := fun ρ M => (fi ρ M).bind fun it M1 => if it.items.length ≤ 1000000 then (lcF it vs g ft fe it.items ρ M1).bind fun ys M2 => .ok (.ptr M2.length) (M2 ++ [.lst ys]) else .fail
def bYes : BF := fun _ M => .ok true M
section
variable {X : Cx} {E : XK} {K : PySem.W.Frag} {wd : World} {fi : IF} {vs : List Nat} {g : GF} {ft : BF} {fe : EF}
/-- the loop of a comprehension; fin: what becomes of its list -/
theorem lc_w {fin : List D → Mem → Fl D} (hfin : ∀ F0 H0 ι0 n0 Fz H ι M Q p acc accV, Grow F0 H0 ι0 n0 Fz H ι M.length → H0 p = none → Rel K wd Fz H ι M → Fz p = none → (∀ k, k < M.length → ι k ≠ p) → H p = some (.lst accV) → bndL M.length acc → RepL K Fz ι acc accV →
      Post K wd E F0 H0 ι0 n0 (RD K) Q (fin acc M) → Q (.ref p) H) :
    ∀ σ H Q, wE K wd E (fun ρ M => (fi ρ M).bind fun it M1 => if it.items.length ≤ 1000000 then (lcF it vs g ft fe it.items ρ M1).bind fin else .fail) σ H Q → tLc (wI K wd E fi) (wT K wd vs g) (wB K wd E ft) (wE K wd E fe) vs σ H Q := by
  rintro σ H Q ⟨Fz, ι, M, ρ, S, q⟩
  refine ⟨Fz, ι, M, ρ, S, q.first fun it M1 F1 H1 ι1 J g1 R1 ra q1 => ?_⟩
  intro p hp
  split at q1
  · rename_i hlen
    obtain ⟨hfp, hip⟩ := R1.fresh hp
    refine ⟨fun i m H' => ∃ Fz2 ι2 M2 acc accV, m = it.items.length - i ∧ i ≤ it.items.length ∧ Grow F1 H1 ι1 M1.length Fz2 H' ι2 M2.length ∧ Rel K wd Fz2 H' ι2 M2 ∧ Fz2 p = none ∧ (∀ k, k < M2.length → ι2 k ≠ p) ∧
        H' p = some (.lst accV) ∧ bndL M2.length acc ∧ RepL K Fz2 ι2 acc accV ∧ acc.length ≤ i ∧ Post K wd E F1 H1 ι1 M1.length (RD K) Q ((lcF it vs g ft fe (it.items.drop i) ρ M2).bind fun ys M3 => fin (acc ++ ys) M3),
      ⟨it.items.length, F1, ι1, M1, [], [], by simp, Nat.zero_le _, (Grow.refl _ _ _ _).side hp, R1.side hfp hip, hfp, hip, upd_same, trivial, rfl, Nat.le_refl _, by simpa using q1⟩, ?_⟩
    rintro i m H' ⟨Fz2, ι2, M2, acc, accV, rfl, hi, g2, R2, f2, p2, hacc, bacc, racc, hal, q2⟩
    by_cases ok : it.ok M2
    · obtain ⟨hgo, hstop⟩ := ra.2 Fz2 H' ι2 M2 g2.fz g2.io g2.le R2 ok
      by_cases hlt : i < it.items.length
      · rw [List.drop_eq_getElem_cons hlt] at q2
        unfold lcF at q2
        rw [if_pos ok] at q2
        obtain ⟨hg1, hg2⟩ := hgo i it.items[i] (List.getElem?_eq_getElem hlt)
        have bd : bnd M2.length it.items[i] := bnd.up g2.le _ (bndL_get ra.1 (List.getElem?_eq_getElem hlt))
        refine .inr ⟨hg1, fun H3 => ∃ Fz3 ι3 M3 acc accV, Grow F1 H1 ι1 M1.length Fz3 H3 ι3 M3.length ∧ Rel K wd Fz3 H3 ι3 M3 ∧ Fz3 p = none ∧ (∀ k, k < M3.length → ι3 k ≠ p) ∧
            H3 p = some (.lst accV) ∧ bndL M3.length acc ∧ RepL K Fz3 ι3 acc accV ∧ acc.length ≤ i + 1 ∧ Post K wd E F1 H1 ι1 M1.length (RD K) Q ((lcF it vs g ft fe (it.items.drop (i + 1)) ρ M3).bind fun ys M4 => fin (acc ++ ys) M4),
          fun H3 ⟨Fz3, ι3, M3, acc3, accV3, a1, a2, a3, a4, a5, a6, a7, a8, a9⟩ => ⟨it.items.length - (i + 1), by omega, Fz3, ι3, M3, acc3, accV3, rfl, hlt, a1, a2, a3, a4, a5, a6, a7, a8, a9⟩, fun x H3 hy => ?_⟩
        obtain ⟨Fz3, g3, R3, rx⟩ := hg2 x H3 hy
        -- the list at p is as it was
        have side : ∀ {Fz4 H4 ι4 n4}, Grow Fz2 H' ι2 M2.length Fz4 H4 ι4 n4 → H4 p = some (.lst accV) ∧ Fz4 p = none ∧ ∀ k, k < n4 → ι4 k ≠ p := fun {Fz4 H4 ι4 n4} g4 => by
          refine ⟨g4.fr p _ hacc p2, ?_, fun k hk e => ?_⟩
          · cases e : Fz4 p with
            | none => rfl
            | some u =>
              rcases g4.fn p (by rw [e]; exact fun z => by cases z) with z | z | ⟨k, hk, z⟩
              · exact absurd f2 z
              · rw [hacc] at z; cases z
              · exact absurd z (p2 k hk)
          · by_cases hk2 : k < M2.length
            · exact p2 k hk2 ((g4.io k hk2).symm.trans e)
            · have z := g4.new k (Nat.le_of_not_lt hk2) hk
              rw [e, hacc] at z; cases z
        -- the state's slots
        have S2 : Sim K wd Fz2 H' ι2 M2 ρ σ := ⟨R2, S.len, fun j d e => by
          obtain ⟨b, v, e', r⟩ := (S.grow g1 R1).slot j d e
          exact ⟨bnd.up g2.le d b, v, e', RepV.up g2.fz g2.io d v b r⟩⟩
        have S3 : Sim K wd Fz3 H3 ι2 M2 (wipeR ρ vs) (wipe σ vs) := (S2.grow g3 R3).wipes vs
        cases e1 : g it.items[i] (wipeR ρ vs) with
        | none => rw [e1] at q2; exact q2.elim
        | some ρ3 =>
          rw [e1] at q2
          dsimp only at q2
          refine ⟨Fz3, ι2, M2, wipeR ρ vs, it.items[i], ρ3, S3, bd, rx, e1, fun σ4 S4 o4 => ⟨?_, ?_⟩⟩
          · exact o4.wipe.trans (Off.of_wipe vs σ).wipe
          have q2' : Post K wd E F1 H1 ι1 M1.length (RD K) Q ((ft ρ3 M2).bind fun b M5 => (if b = true then (fe ρ3 M5).bind fun y M6 => (lcF it vs g ft fe (it.items.drop (i + 1)) ρ M6).bind fun ys M7 => .ok (y :: ys) M7
              else lcF it vs g ft fe (it.items.drop (i + 1)) ρ M5).bind fun ys M8 => fin (acc ++ ys) M8) := by
            cases e5 : ft ρ3 M2 with
            | ok b M5 => rw [e5] at q2; exact q2
            | exc e M5 => rw [e5] at q2; exact q2
            | fail => rw [e5] at q2; exact q2
          have g23 := g2.trans g3
          refine ⟨Fz3, ι2, M2, ρ3, S4, Post.firstG g23 q2' fun b M5 Fz5 H5 ι5 y g5 R5 rb q5 => ?_⟩
          have rb : y = b := rb
          subst rb
          cases y with
          | false =>
            rw [if_neg Bool.false_ne_true] at q5
            rw [if_neg Bool.false_ne_true]
            have gg := g3.trans g5
            obtain ⟨s1, s2, s3⟩ := side gg
            exact ⟨Fz5, ι5, M5, acc, accV, g23.trans g5, R5, s2, s3, s1, bndL.up gg.le acc bacc, RepL.up gg.fz gg.io acc accV bacc racc, by omega, q5⟩
          | true =>
            rw [if_pos rfl] at q5
            rw [if_pos rfl]
            have q5' : Post K wd E F1 H1 ι1 M1.length (RD K) Q ((fe ρ3 M5).bind fun y M6 => ((lcF it vs g ft fe (it.items.drop (i + 1)) ρ M6).bind fun ys M7 => .ok (y :: ys) M7).bind fun ys M8 => fin (acc ++ ys) M8) := by
              cases e6 : fe ρ3 M5 with
              | ok y M6 => rw [e6] at q5; exact q5
              | exc e M6 => rw [e6] at q5; exact q5
              | fail => rw [e6] at q5; exact q5
            refine ⟨Fz5, ι5, M5, ρ3, S4.grow g5 R5, Post.firstG (g23.trans g5) q5' fun z M6 Fz6 H6 ι6 zv g6 R6 rz q6 => ?_⟩
            have gg := (g3.trans g5).trans g6
            obtain ⟨s1, s2, s3⟩ := side gg
            have bacc6 := bndL.up gg.le acc bacc
            have racc6 : RepL K Fz6 ι6 acc accV := RepL.up gg.fz gg.io acc accV bacc racc
            refine ⟨accV, s1, ?_, Fz6, ι6, M6, acc ++ [z], accV ++ [zv], ?_, R6.side s2 s3, s2, s3, upd_same, bndL_append.mpr ⟨bacc6, rz.1, trivial⟩, racc6.append ⟨zv, [], rfl, rz.2, rfl⟩, by rw [List.length_append, List.length_singleton]; omega, ?_⟩
            · rw [← racc6.len]
              exact small6' (by omega)
            · exact ((g23.trans g5).trans g6).side hp
            · cases e7 : lcF it vs g ft fe (it.items.drop (i + 1)) ρ M6 with
              | ok ys M7 =>
                rw [e7] at q6
                rw [Fl.bind_ok, Fl.bind_ok] at q6
                rw [Fl.bind_ok, List.append_assoc]
                exact q6
              | exc e M7 => rw [e7] at q6; exact q6
              | fail => rw [e7] at q6; exact q6
      · have hie : i = it.items.length := by omega
        subst hie
        rw [List.drop_length] at q2
        unfold lcF at q2
        rw [if_pos ok] at q2
        refine .inl ⟨hstop, ?_⟩
        rw [Fl.bind_ok, List.append_nil] at q2
        exact hfin F1 H1 ι1 M1.length Fz2 H' ι2 M2 Q p acc accV g2 hp R2 f2 p2 hacc bacc racc q2
    · cases e : it.items.drop i with
      | nil =>
        rw [e] at q2
        unfold lcF at q2
        rw [if_neg ok] at q2
        exact q2.elim
      | cons d r =>
        rw [e] at q2
        unfold lcF at q2
        rw [if_neg ok] at q2
        exact q2.elim
  · exact q1.elim
end
end MM

/-! MMf: rules for comprehensions, methods, stores, slices. -/
namespace MM
open PySem PySem.Spec PyProof.Rows L2
section
variable {X : Cx} {E : XK} {K : PySem.W.Frag} {wd : World} {fi : IF} {vs : List Nat} {g : GF} {ft : BF} {fe : EF}
theorem fin_F : ∀ F0 H0 ι0 n0 Fz H ι M Q p acc accV, Grow F0 H0 ι0 n0 Fz H ι M.length → H0 p = none → Rel K wd Fz H ι M → Fz p = none → (∀ k, k < M.length → ι k ≠ p) → H p = some (.lst accV) → bndL M.length acc → RepL K Fz ι acc accV →
    Post K wd E F0 H0 ι0 n0 (RD K) Q ((fun ys M2 => (.ok (.lst ys) M2 : Fl D)) acc M) → Q (.ref p) H := by
  intro F0 H0 ι0 n0 Fz H ι M Q p acc accV g h0 R f1 f2 h b r q
  have R2 : Rel K wd (upd Fz p (.lst accV)) H ι M := R.freeze f1 f2 h
  have up : ∀ a u, Fz a = some u → upd Fz p (.lst accV) a = some u := fun a u e => by rw [upd_ne (ne_of_none e f1)]; exact e
  exact q _ _ _ _ (g.freeze h0 f1) R2 ⟨b, p, accV, rfl, upd_same, RepL.up (n := M.length) up (fun _ _ => rfl) _ _ b r⟩
theorem fin_P : ∀ F0 H0 ι0 n0 Fz H ι M Q p acc accV, Grow F0 H0 ι0 n0 Fz H ι M.length → H0 p = none → Rel K wd Fz H ι M → Fz p = none → (∀ k, k < M.length → ι k ≠ p) → H p = some (.lst accV) → bndL M.length acc → RepL K Fz ι acc accV →
    Post K wd E F0 H0 ι0 n0 (RD K) Q ((fun ys M2 => (.ok (.ptr M2.length) (M2 ++ [.lst ys]) : Fl D)) acc M) → Q (.ref p) H := by
  intro F0 H0 ι0 n0 Fz H ι M Q p acc accV g h0 R f1 f2 h b r q
  have R2 : Rel K wd Fz H (ext ι M.length p) (M ++ [MO.lst acc]) := R.adopt (mo := .lst acc) f1 f2 (by rw [h]; exact fun z => by cases z) b fun ι' hi => ⟨f1, accV, h, RepL.up (n := M.length) (fun _ _ e => e) hi _ _ b r⟩
  have hl : (M ++ [MO.lst acc]).length = M.length + 1 := by simp
  refine q _ _ _ _ (by rw [hl]; exact g.adopt h0) R2 ⟨by rw [hl]; exact Nat.lt_succ_self _, ?_⟩
  show V.ref p = V.ref (ext ι M.length p M.length)
  rw [ext_same]
variable {elt tg iter : Expr} {ifs : List Expr} {scope : Scope} {own : List (Str × Nat)} {pos spos py : Pos} {i : Nat} {y : Str}
theorem xts_nil : PTs X [] (wB X.K X.w E bYes) := pts_nil.imp (by
  rintro σ H Q ⟨Fz, ι, M, ρ, S, q⟩
  exact q.now S.rel rfl)
theorem xts_one {c : Expr} {gc : BF} (h : XT X E c gc) : PTs X [c] (wB X.K X.w E gc) := pts_one h
theorem xe_lcF (hc : X.calm = true) (hN : X.N.Nodup) (hi : XI X E tg iter fi) (ok : BlkOk X.N X.env.scope scope own)
    (hg : ∀ (s : Shared) (H : Hp) (C : Addr) (cl : List (Str × Addr)) (fp : List Addr), PG (X.blk s H scope (compEnvC scope cl C X.env) fp) tg (wT X.K X.w (own.map (·.2)) g))
    (ht : ∀ (s : Shared) (H : Hp) (C : Addr) (cl : List (Str × Addr)) (fp : List Addr), PTs (X.blk s H scope (compEnvC scope cl C X.env) fp) ifs (wB X.K X.w E ft))
    (he : ∀ (s : Shared) (H : Hp) (C : Addr) (cl : List (Str × Addr)) (fp : List Addr), PE (X.blk s H scope (compEnvC scope cl C X.env) fp) elt (wE X.K X.w E fe)) (hs : ∀ x, foldedSetIterable iter X.env x = pure x := by intro _; rfl) :
    XE X E (.ListComp elt [⟨tg, iter, ifs, 0⟩] scope pos) (eLcF fi (own.map (·.2)) g ft fe) := (pe_lc hc hN hi ok hg ht he hs).imp (lc_w fin_F)
theorem xe_lcP (hc : X.calm = true) (hN : X.N.Nodup) (hi : XI X E tg iter fi) (ok : BlkOk X.N X.env.scope scope own)
    (hg : ∀ (s : Shared) (H : Hp) (C : Addr) (cl : List (Str × Addr)) (fp : List Addr), PG (X.blk s H scope (compEnvC scope cl C X.env) fp) tg (wT X.K X.w (own.map (·.2)) g))
    (ht : ∀ (s : Shared) (H : Hp) (C : Addr) (cl : List (Str × Addr)) (fp : List Addr), PTs (X.blk s H scope (compEnvC scope cl C X.env) fp) ifs (wB X.K X.w E ft))
    (he : ∀ (s : Shared) (H : Hp) (C : Addr) (cl : List (Str × Addr)) (fp : List Addr), PE (X.blk s H scope (compEnvC scope cl C X.env) fp) elt (wE X.K X.w E fe)) (hs : ∀ x, foldedSetIterable iter X.env x = pure x := by intro _; rfl) :
    XE X E (.ListComp elt [⟨tg, iter, ifs, 0⟩] scope pos) (eLcP fi (own.map (·.2)) g ft fe) := (pe_lc hc hN hi ok hg ht he hs).imp (lc_w fin_P)
theorem set_w {te : TE} {f : EF} (h : ∀ σ H Q, wE K wd E f σ H Q → te σ H Q) : ∀ D σ H, wS K wd E (sSet i f) D σ H → tAsg te (gName i) D σ H := by
  rintro D σ H ⟨Fz, ι, M, ρ, S, q⟩
  exact h _ _ _ ⟨Fz, ι, M, ρ, S, q.first fun d M1 Fz1 H1 ι1 x g1 R1 ra q1 => q1.nxt ((S.grow g1 R1).set i ra.1 ra.2)⟩
theorem xs_setLcF (hc : X.calm = true) (hN : X.N.Nodup) (hy : X.N[i]? = some y) (hyl : X.env.scope.names.lookup y = some .local)
    (hsw : swapsWith (.ListComp elt [⟨tg, iter, ifs, 0⟩] scope pos) (some (.Name y py)) spos.line X.env = pure true) (hi : XI X E tg iter fi) (ok : BlkOk X.N X.env.scope scope own)
    (hg : ∀ (s : Shared) (H : Hp) (C : Addr) (cl : List (Str × Addr)) (fp : List Addr), PG (X.blk s H scope (compEnvC scope cl C X.env) fp) tg (wT X.K X.w (own.map (·.2)) g))
    (ht : ∀ (s : Shared) (H : Hp) (C : Addr) (cl : List (Str × Addr)) (fp : List Addr), PTs (X.blk s H scope (compEnvC scope cl C X.env) fp) ifs (wB X.K X.w E ft))
    (he : ∀ (s : Shared) (H : Hp) (C : Addr) (cl : List (Str × Addr)) (fp : List Addr), PE (X.blk s H scope (compEnvC scope cl C X.env) fp) elt (wE X.K X.w E fe)) (hs : ∀ x, foldedSetIterable iter X.env x = pure x := by intro _; rfl) :
    XS X E (.Assign [.Name y py] (.ListComp elt [⟨tg, iter, ifs, 0⟩] scope pos) spos) (sSet i (eLcF fi (own.map (·.2)) g ft fe)) := (ps_setLc hc hN hy hyl hsw hi ok hg ht he hs).imp (set_w (lc_w fin_F))
theorem xs_setLcP (hc : X.calm = true) (hN : X.N.Nodup) (hy : X.N[i]? = some y) (hyl : X.env.scope.names.lookup y = some .local)
    (hsw : swapsWith (.ListComp elt [⟨tg, iter, ifs, 0⟩] scope pos) (some (.Name y py)) spos.line X.env = pure true) (hi : XI X E tg iter fi) (ok : BlkOk X.N X.env.scope scope own)
    (hg : ∀ (s : Shared) (H : Hp) (C : Addr) (cl : List (Str × Addr)) (fp : List Addr), PG (X.blk s H scope (compEnvC scope cl C X.env) fp) tg (wT X.K X.w (own.map (·.2)) g))
    (ht : ∀ (s : Shared) (H : Hp) (C : Addr) (cl : List (Str × Addr)) (fp : List Addr), PTs (X.blk s H scope (compEnvC scope cl C X.env) fp) ifs (wB X.K X.w E ft))
    (he : ∀ (s : Shared) (H : Hp) (C : Addr) (cl : List (Str × Addr)) (fp : List Addr), PE (X.blk s H scope (compEnvC scope cl C X.env) fp) elt (wE X.K X.w E fe)) (hs : ∀ x, foldedSetIterable iter X.env x = pure x := by intro _; rfl) :
    XS X E (.Assign [.Name y py] (.ListComp elt [⟨tg, iter, ifs, 0⟩] scope pos) spos) (sSet i (eLcP fi (own.map (·.2)) g ft fe)) := (ps_setLc hc hN hy hyl hsw hi ok hg ht he hs).imp (set_w (lc_w fin_P))
end

/-! ### methods -/
/-- a method's answer on data: the receiver, the arguments -/
def MeS (K : PySem.W.Frag) (wd : World) (E : XK) (T : String) (r : V → List V → Hp → VK → Prop) (op : D → List D → Mem → Fl D) : Prop :=
  ∀ Fz H ι M a l x vs Q, Rel K wd Fz H ι M → bnd M.length a → bndL M.length l → RepV K Fz ι a x → RepL K Fz ι l vs → Post K wd E Fz H ι M.length (RD K) Q (op a l M) → r x vs H Q
/-- the receiver is of the type T -/
def tyM (T : String) (a : D) (M : Mem) : Prop := match a with
  | .str _ => T = "str"
  | .int _ => T = "int"
  | .lst _ => T = "list"
  | .ptr k => match M[k]? with
    | some (.lst _) => T = "list"
    | _ => False
  | _ => False
noncomputable instance (T : String) (a : D) (M : Mem) : Decidable (tyM T a M) := Classical.propDecidable _
noncomputable def eMt (T : String) (op : D → List D → Mem → Fl D) (fo : EF) (fa : AF) : EF := fun ρ M => (fo ρ M).bind fun a M1 => if tyM T a M1 then (fa ρ M1).bind fun l M2 => op a l M2 else .fail
section
variable {X : Cx} {E : XK} {K : PySem.W.Frag} {wd : World} {o e : Expr} {es : List Expr} {fo : EF} {fa : AF} {name : Str} {apos cpos : Pos} {T id : String} {r : V → List V → Hp → VK → Prop} {op : D → List D → Mem → Fl D}
theorem tyM_ok {Fz H : Hp} {ι : Nat → Addr} {M : Mem} {a : D} {x : V} (R : Rel K wd Fz H ι M) (ra : RepV K Fz ι a x) (h : tyM T a M) : tyV K T x H := by
  cases a with
  | str z =>
    have ra : x = _ := ra
    subst ra
    exact h
  | int z =>
    have ra : x = _ := ra
    subst ra
    exact h
  | lst l =>
    obtain ⟨p, vs, ex, hs, _⟩ := ra
    subst ex
    exact .inl ⟨h, vs, SqL.of (R.fz _ _ hs)⟩
  | ptr k =>
    have ra : x = _ := ra
    subst ra
    unfold tyM at h
    dsimp only at h
    split at h
    · rename_i l e
      obtain ⟨_, vs, e1, _⟩ := R.ob k _ e
      exact .inl ⟨h, vs, SqL.of e1⟩
    · exact h.elim
  | _ => exact h.elim
theorem xe_bm (pa : PlainAttrs T) (slot : Slot T name id) (hty : typeOf (.builtin id) = pure (.type "method_descriptor")) (hm : MtR X id r) (hs : MeS X.K X.w E T r op) (ho : XE X E o fo) (ha : XA X E (e :: es) fa)
    (hbase : attributeBase o name X.env (eval o X.env) = eval o X.env := by rfl)
    (hfew : ((backTo cpos (starEach (e :: es) X.env)).all (fun x => !x.1) && (backToKw cpos (keywordEach [] X.env)).all (fun x => x.1.isSome)
      && decide ((e :: es).length + ([] : List Keyword).length + (if ([] : List Keyword).isEmpty then 0 else 1) < 30)) = true := by rfl)
    (hline : (apos.endLine == cpos.line) = true := by rfl) (hst : starEach (e :: es) X.env = (false, eval e X.env) :: starEach es X.env := by rfl) (hplain : (backTo cpos (starEach es X.env)).any (·.1) = false := by rfl) :
    XE X E (.Call (.Attribute o name apos) (e :: es) [] cpos) (eMt T op fo fa) := (pe_bm pa slot hty hm ho ha hbase hfew hline hst hplain).imp (by
  rintro σ H Q ⟨Fz, ι, M, ρ, S, q⟩
  refine ⟨Fz, ι, M, ρ, S, q.first fun a M1 Fz1 H1 ι1 x g1 R1 ra q1 => ?_⟩
  split at q1
  · rename_i ty
    refine ⟨tyM_ok R1 ra.2 ty, Fz1, ι1, M1, ρ, S.grow g1 R1, q1.first fun l M2 Fz2 H2 ι2 vs g2 R2 rb q2 => ?_⟩
    exact hs Fz2 H2 ι2 M2 a l x vs Q R2 (bnd.up g2.le a ra.1) rb.1 (g2.rep ra.1 ra.2) rb.2 q2
  · exact q1.elim)
theorem xe_bm0 (pa : PlainAttrs T) (slot : Slot T name id) (hty : typeOf (.builtin id) = pure (.type "method_descriptor")) (hm : MtR X id r) (hs : MeS X.K X.w E T r op) (ho : XE X E o fo)
    (hbase : attributeBase o name X.env (eval o X.env) = eval o X.env := by rfl) (hline : (apos.endLine == cpos.line) = true := by rfl) : XE X E (.Call (.Attribute o name apos) [] [] cpos) (eMt T op fo aNil) := (pe_bm0 pa slot hty hm ho hbase hline).imp (by
  rintro σ H Q ⟨Fz, ι, M, ρ, S, q⟩
  refine ⟨Fz, ι, M, ρ, S, q.first fun a M1 Fz1 H1 ι1 x g1 R1 ra q1 => ?_⟩
  split at q1
  · rename_i ty
    exact ⟨tyM_ok R1 ra.2 ty, hs Fz1 H1 ι1 M1 a [] x [] Q R1 ra.1 trivial ra.2 rfl q1⟩
  · exact q1.elim)
/-- xs.append(e) -/
def appD (a : D) (l : List D) (M : Mem) : Fl D := match a, l with
  | .ptr k, [d] => match M[k]? with
    | some (.lst l) => if l.length < 1000000 then .ok .non (M.set k (.lst (l ++ [d]))) else .fail
    | _ => .fail
  | _, _ => .fail
theorem wr_lst {Fz H : Hp} {ι : Nat → Addr} {M : Mem} {k : Nat} {l l' : List D} {ws' : List V} (R : Rel K wd Fz H ι M) (e : M[k]? = some (.lst l)) (b : bndL M.length l') (r : RepL K Fz ι l' ws') :
    Rel K wd Fz (upd H (ι k) (.lst ws')) ι (M.set k (.lst l')) ∧ Grow Fz H ι M.length Fz (upd H (ι k) (.lst ws')) ι (M.set k (.lst l')).length :=
  R.write (mo := .lst l') (List.getElem?_eq_some_iff.mp e).1 (R.ob k _ e).1 b ⟨(R.ob k _ e).1, ws', upd_same, r⟩
theorem ms_append : MeS K wd E "list" rAppend appD := by
  intro Fz H ι M a l x vs Q R ba bl ra rl q
  unfold appD at q
  split at q
  · rename_i k d
    obtain ⟨y, ev, ry⟩ := rl.one
    have ra : x = _ := ra
    subst ra ev
    split at q
    · rename_i l e
      split at q
      · rename_i hl
        obtain ⟨_, ws, e1, rw⟩ := R.ob k _ e
        refine ⟨ι k, ws, y, rfl, rfl, e1, by rw [← rw.len]; exact small6' hl, ?_⟩
        obtain ⟨R2, g2⟩ := wr_lst (l' := l ++ [d]) (ws' := ws ++ [y]) R e (bndL_append.mpr ⟨R.wf k _ e, bl.1, trivial⟩) (rw.append ⟨y, [], rfl, ry, rfl⟩)
        exact q _ _ _ _ g2 R2 ⟨trivial, rfl⟩
      · exact q.elim
    · exact q.elim
  · exact q.elim
/-- xs.pop() -/
def popD (a : D) (l : List D) (M : Mem) : Fl D := match a, l with
  | .ptr k, [] => match M[k]? with
    | some (.lst l) => match l[l.length - 1]? with
      | some d => .ok d (M.set k (.lst l.dropLast))
      | none => .fail
    | _ => .fail
  | _, _ => .fail
theorem RepL.dropLast {Fz : Hp} {ι : Nat → Addr} {l : List D} {vs : List V} (r : RepL K Fz ι l vs) : RepL K Fz ι l.dropLast vs.dropLast := by
  rw [List.dropLast_eq_take, List.dropLast_eq_take, ← r.len]
  exact r.take _
theorem bndL_take {n i : Nat} {l : List D} (b : bndL n l) : bndL n (l.take i) := bndL_iff.mpr fun d hd => bndL_iff.mp b d (List.mem_of_mem_take hd)
theorem bndL_drop {n i : Nat} {l : List D} (b : bndL n l) : bndL n (l.drop i) := bndL_iff.mpr fun d hd => bndL_iff.mp b d (List.mem_of_mem_drop hd)
theorem ms_pop : MeS K wd E "list" rPop popD := by
  intro Fz H ι M a l x vs Q R ba bl ra rl q
  unfold popD at q
  split at q
  · rename_i k
    have ra : x = _ := ra
    have rl : vs = [] := rl
    subst ra rl
    split at q
    · rename_i l e
      split at q
      · rename_i d hd
        obtain ⟨_, ws, e1, rw⟩ := R.ob k _ e
        obtain ⟨v, hv, rv⟩ := rw.get hd
        rw [rw.len] at hv
        have bw : bndL M.length l := R.wf k _ e
        refine ⟨ι k, ws, v, rfl, rfl, e1, hv, ?_⟩
        obtain ⟨R2, g2⟩ := wr_lst (l' := l.dropLast) (ws' := ws.dropLast) R e (by rw [List.dropLast_eq_take]; exact bndL_take bw) rw.dropLast
        exact q _ _ _ _ g2 R2 ⟨bnd.up g2.le d (bndL_get bw hd), rv⟩
      · exact q.elim
    · exact q.elim
  · exact q.elim
/-- texts -/
def splitD (a : D) (l : List D) (M : Mem) : Fl D := match a, l with
  | .str x, [.str y] => if (y.length == 0) = false ∧ x.length ≤ 1000000 then .ok (.lst ((Txt.split x y).map .str)) M else .fail
  | _, _ => .fail
theorem ms_split : MeS K wd E "str" (fun x xs H Q => ∃ a b, x = .str a ∧ xs = [.str b] ∧ (b.length == 0) = false ∧ a.length + 2 ≤ sizeLine ∧ rNewStrs (Txt.split a b) H Q) splitD := by
  intro Fz H ι M a l x vs Q R ba bl ra rl q
  unfold splitD at q
  split at q
  · rename_i s t
    obtain ⟨y, ev, ry⟩ := rl.one
    have ra : x = _ := ra
    have ry : y = _ := ry
    subst ra ev ry
    split at q
    · rename_i h
      have hs : s.length + 2 ≤ sizeLine := by
        have := sizeLine_eq
        omega
      refine ⟨s, t, rfl, rfl, h.1, hs, fun p hp => ?_⟩
      obtain ⟨R2, g2⟩ := R.laid (o := .lst ((Txt.split s t).map V.str)) hp
      exact q _ _ _ _ g2 R2 ⟨bndL_strs _, p, _, rfl, upd_same, RepL.of_strs _ _ _ _⟩
    · exact q.elim
  · exact q.elim
/-- the texts of a list, where all are texts -/
def strsOf : List D → Option (List Str)
  | [] => some []
  | .str x :: l => (strsOf l).map fun r => x :: r
  | _ :: _ => none
theorem strsOf_map : ∀ {l : List D} {xs : List Str}, strsOf l = some xs → l = xs.map .str
  | [], _, h => by
    cases h
    rfl
  | .str x :: l, _, h => by
    unfold strsOf at h
    cases e : strsOf l with
    | none => rw [e] at h; cases h
    | some r =>
      rw [e] at h
      cases h
      rw [strsOf_map e]
      rfl
  | .non :: l, _, h => by cases h
  | .bl _ :: l, _, h => by cases h
  | .int _ :: l, _, h => by cases h
  | .tup _ :: l, _, h => by cases h
  | .lst _ :: l, _, h => by cases h
  | .scr _ :: l, _, h => by cases h
  | .ptr _ :: l, _, h => by cases h
@[simp] theorem strsOf_strs : ∀ xs : List Str, strsOf (xs.map .str) = some xs
  | [] => rfl
  | x :: xs => by
    show (strsOf (xs.map .str)).map _ = _
    rw [strsOf_strs xs]
    rfl
def joinD (a : D) (l : List D) (M : Mem) : Fl D := match a, l with
  | .str x, [d] => match itemsD M d with
    | some l => match strsOf l with
      | some ys => if (ys.map (·.length)).sum + ys.length * x.length ≤ 1000000 then .ok (.str (Txt.join x ys)) M else .fail
      | none => .fail
    | none => .fail
  | _, _ => .fail
def rJoin (K : PySem.W.Frag) : V → List V → Hp → VK → Prop := fun x xs H Q => ∃ a p, ∃ ys : List Str, x = .str a ∧ xs = [.ref p] ∧ (SqL K H p (ys.map V.str) ∨ SqT K H p (ys.map V.str)) ∧
    (ys.map (·.length)).sum + ys.length * a.length ≤ 16777216 ∧ Q (.str (Txt.join a ys)) H
theorem mr_join : MtR X "str.join" (rJoin X.K) := mt_join
theorem ms_join : MeS K wd E "str" (rJoin K) joinD := by
  intro Fz H ι M a l x vs Q R ba bl ra rl q
  unfold joinD at q
  split at q
  · rename_i s d
    obtain ⟨y, ev, ry⟩ := rl.one
    have ra : x = _ := ra
    subst ra ev
    split at q
    · rename_i l e
      split at q
      · rename_i ys e2
        split at q
        · rename_i h
          obtain ⟨_, p, ws, ex, hs, rw, _⟩ := items_ok R bl.1 ry e
          subst ex
          have e3 := strsOf_map e2
          subst e3
          have e4 := rw.strs
          subst e4
          exact ⟨s, p, ys, rfl, rfl, hs, by omega, q.now R ⟨trivial, rfl⟩⟩
        · exact q.elim
      · exact q.elim
    · exact q.elim
  · exact q.elim
def startsD (a : D) (l : List D) (M : Mem) : Fl D := match a, l with
  | .str x, [.str y] => .ok (.bl (Txt.startswith x y)) M
  | _, _ => .fail
theorem ms_starts : MeS K wd E "str" (fun x xs H Q => ∃ a b, x = .str a ∧ xs = [.str b] ∧ Q (.bl (Txt.startswith a b)) H) startsD := by
  intro Fz H ι M a l x vs Q R ba bl ra rl q
  unfold startsD at q
  split at q
  · rename_i s t
    obtain ⟨y, ev, ry⟩ := rl.one
    have ra : x = _ := ra
    have ry : y = _ := ry
    subst ra ev ry
    exact ⟨s, t, rfl, rfl, q.now R ⟨trivial, rfl⟩⟩
  · exact q.elim
def findD (a : D) (l : List D) (M : Mem) : Fl D := match a, l with
  | .str x, [.str y] => .ok (.int (Txt.find x y)) M
  | _, _ => .fail
theorem ms_find : MeS K wd E "str" (fun x xs H Q => ∃ a b, x = .str a ∧ xs = [.str b] ∧ Q (.int (Txt.find a b)) H) findD := by
  intro Fz H ι M a l x vs Q R ba bl ra rl q
  unfold findD at q
  split at q
  · rename_i s t
    obtain ⟨y, ev, ry⟩ := rl.one
    have ra : x = _ := ra
    have ry : y = _ := ry
    subst ra ev ry
    exact ⟨s, t, rfl, rfl, q.now R ⟨trivial, rfl⟩⟩
  · exact q.elim
end

/-! ### a[i] = e -/
/-- the order: the value, the list, the index -/
def sSetIx (fo fi fe : EF) : SF := fun ρ M => (fe ρ M).bind fun d M1 => (fo ρ M1).bind fun a M2 => (fi ρ M2).bind fun i M3 => match a, i with
  | .ptr k, .int z => match M3[k]? with
    | some (.lst l) => match ixN l.length z with
      | some j => .ok (.nx ρ) (M3.set k (.lst (l.set j d)))
      | none => .fail
    | _ => .fail
  | _, _ => .fail
section
variable {X : Cx} {E : XK} {K : PySem.W.Frag} {wd : World} {o i e : Expr} {fo fi fe : EF} {pos tpos : Pos}
theorem xs_setIx (ho : XE X E o fo) (hi : XE X E i fi) (he : XE X E e fe) (hs : swapsWithSole [.Subscript o i tpos] e pos.line X.env = pure false := by rfl) (hw : swappedStores [.Subscript o i tpos] e X.env = pure none := by rfl)
    (h1 : (assignEach [.Subscript o i tpos] X.env).map (·.2) = [assign (.Subscript o i tpos) X.env] := by rfl)
    (ha : ∀ v, assign (.Subscript o i tpos) X.env v = (do
      let ov ← holding [v] (eval o X.env)
      let iv ← holding [v, ov] (eval i X.env)
      standAt tpos
      holding [v, ov, iv] (setItem ov iv v)
      release [v, ov, iv] []) := by intro _; rfl) : XS X E (.Assign [.Subscript o i tpos] e pos) (sSetIx fo fi fe) := (ps_asg he (pg_sub ho hi set_list ha) hs hw h1).imp (by
  rintro D σ H ⟨Fz, ι, M, ρ, S, q⟩
  refine ⟨Fz, ι, M, ρ, S, q.first fun d M1 Fz1 H1 ι1 x g1 R1 rd q1 => ?_⟩
  refine ⟨Fz1, ι1, M1, ρ, S.grow g1 R1, q1.first fun a M2 Fz2 H2 ι2 y g2 R2 ra q2 => ?_⟩
  refine ⟨Fz2, ι2, M2, ρ, S.grow (g1.trans g2) R2, q2.first fun b M3 Fz3 H3 ι3 z g3 R3 rb q3 => ?_⟩
  have rd3 := (g2.trans g3).rep rd.1 rd.2
  have bd3 := bnd.up (g2.trans g3).le d rd.1
  have ra3 := g3.rep ra.1 ra.2
  cases a with
  | ptr k =>
    cases b with
    | int j =>
      dsimp only at q3
      split at q3
      · rename_i l e
        split at q3
        · rename_i m hm
          obtain ⟨_, ws, e1, rw⟩ := R3.ob k _ e
          have ra3 : y = _ := ra3
          have rb3 : z = _ := rb.2
          subst ra3 rb3
          refine ⟨ι3 k, ws, j, m, rfl, rfl, e1, by rw [← rw.len]; exact hm, ?_⟩
          obtain ⟨R4, g4⟩ := wr_lst (l' := l.set m d) (ws' := ws.set m x) R3 e (bndL_set (R3.wf k _ e) bd3) (rw.set m rd3)
          exact q3 _ _ _ _ g4 ((S.grow (((g1.trans g2).trans g3).trans g4) R4))
        · exact q3.elim
      · exact q3.elim
    | _ => exact q3.elim
  | _ => cases b <;> exact q3.elim)
end

/-! ### slices -/
abbrev OF := Ro → Mem → Fl (Option Int)
def RO : Hp → (Nat → Addr) → Nat → Option Int → Option Int → Prop := fun _ _ _ b c => c = b
def wO (K : PySem.W.Frag) (wd : World) (E : XK) (f : OF) : TO := fun σ H Q => ∃ Fz ι M ρ, Sim K wd Fz H ι M ρ σ ∧ Post K wd E Fz H ι M.length RO Q (f ρ M)
theorem _root_.L2.PO.imp {X : Cx} {e : Option Expr} {t t' : TO} (h : PO X e t) (i : ∀ σ H Q, t' σ H Q → t σ H Q) : PO X e t' := ⟨fun pins s σ H Q I q => h.run pins s σ H Q I (i σ H Q q)⟩
def oNo : OF := fun _ M => .ok none M
def oIx (f : EF) : OF := fun ρ M => (f ρ M).bind fun d M1 => match d with
  | .int i => .ok (some i) M1
  | _ => .fail
/-- xs[a:b] of a list (a new one that stands for good), a text -/
def cutL (xs : List D) (lo hi : Option Int) : List D := (xs.drop (HT.sIx xs.length 0 lo)).take (HT.sIx xs.length xs.length hi - HT.sIx xs.length 0 lo)
def eSl (fe : EF) (fl fh : OF) : EF := fun ρ M => (fe ρ M).bind fun d M1 => (fl ρ M1).bind fun l M2 => (fh ρ M2).bind fun h M3 => match d with
  | .str z => if z.length ≤ 1000000 then .ok (.str (cutS z l h)) M3 else .fail
  | .tup _ => .fail
  | d => match itemsD M3 d with
    | some xs => .ok (.lst (cutL xs l h)) M3
    | none => .fail
section
variable {X : Cx} {E : XK} {K : PySem.W.Frag} {wd : World} {e : Expr} {fe : EF} {fl fh : OF} {lo hi : Option Expr} {pos p2 : Pos}
theorem xo_none : PO X none (wO X.K X.w E oNo) := po_none.imp (by
  rintro σ H Q ⟨Fz, ι, M, ρ, S, q⟩
  exact q.now S.rel rfl)
theorem xo_some (h : XE X E e fe) : PO X (some e) (wO X.K X.w E (oIx fe)) := (po_some h).imp (by
  rintro σ H Q ⟨Fz, ι, M, ρ, S, q⟩
  refine ⟨Fz, ι, M, ρ, S, q.first fun d M1 Fz1 H1 ι1 x g1 R1 rd q1 => ?_⟩
  cases d with
  | int i => exact ⟨i, rd.2, q1.now R1 rfl⟩
  | _ => exact q1.elim)
theorem RepL.cut {Fz : Hp} {ι : Nat → Addr} {l : List D} {vs : List V} (r : RepL K Fz ι l vs) (lo hi : Option Int) : RepL K Fz ι (cutL l lo hi) (cutV vs lo hi) := by
  unfold cutL cutV
  rw [← r.len]
  exact (r.drop _).take _
def rSlA (K : PySem.W.Frag) : V → Option Int → Option Int → Hp → VK → Prop := fun x lo hi H Q => rSlL K x lo hi H Q ∨ ∃ z, x = .str z ∧ z.length ≤ sizeLine ∧ Q (.str (cutS z lo hi)) H
theorem sl_any : SlR X (rSlA X.K) := by
  intro pins s σ H x v vl vu lo hi sl Q I rx hs pl pu h
  rcases h with h | h
  · exact sl_list pins s σ H x v vl vu lo hi sl Q I rx hs pl pu h
  · exact sl_str pins s σ H x v vl vu lo hi sl Q I rx hs pl pu h
theorem xe_sl (he : XE X E e fe) (hl : PO X lo (wO X.K X.w E fl)) (hh : PO X hi (wO X.K X.w E fh)) : XE X E (.Subscript e (.Slice lo hi none p2) pos) (eSl fe fl fh) := (pe_slice sl_any he hl hh).imp (by
  rintro σ H Q ⟨Fz, ι, M, ρ, S, q⟩
  refine ⟨Fz, ι, M, ρ, S, q.first fun d M1 Fz1 H1 ι1 x g1 R1 rd q1 => ?_⟩
  refine ⟨Fz1, ι1, M1, ρ, S.grow g1 R1, q1.first fun l M2 Fz2 H2 ι2 y g2 R2 ra q2 => ?_⟩
  refine ⟨Fz2, ι2, M2, ρ, S.grow (g1.trans g2) R2, q2.first fun h M3 Fz3 H3 ι3 z g3 R3 rb q3 => ?_⟩
  have ra : y = l := ra
  have rb : z = h := rb
  subst ra rb
  have rd3 := (g2.trans g3).rep rd.1 rd.2
  have bd3 := bnd.up (g2.trans g3).le d rd.1
  have seq : ∀ {xs}, itemsD M3 d = some xs → (¬ ∃ l', d = .tup l') → Post X.K X.w E Fz3 H3 ι3 M3.length (RD X.K) Q (.ok (.lst (cutL xs y z)) M3) → rSlA X.K x y z H3 Q := fun {xs} e nt q => by
    obtain ⟨bl, p, ws, ex, _, rw, hl⟩ := items_ok R3 bd3 rd3 e
    rcases hl with hl | hl
    · exact absurd hl nt
    · refine .inl ⟨p, ws, ex, hl, fun p2 hp2 => ?_⟩
      obtain ⟨R4, g4⟩ := R3.laid (o := .lst (cutV ws y z)) hp2
      have bc : bndL M3.length (cutL xs y z) := bndL_take (bndL_drop bl)
      exact q _ _ _ _ g4 R4 ⟨bc, p2, _, rfl, upd_same, g4.repL bc (rw.cut y z)⟩
  cases d with
  | str s =>
    dsimp only at q3
    split at q3
    · rename_i hz
      exact .inr ⟨s, rd3, small6 hz, q3.now R3 ⟨trivial, rfl⟩⟩
    · exact q3.elim
  | tup l => exact q3.elim
  | lst l => exact seq (xs := l) rfl (fun ⟨_, z⟩ => by cases z) q3
  | scr l => exact seq (xs := l) rfl (fun ⟨_, z⟩ => by cases z) q3
  | ptr k =>
    dsimp only at q3
    cases e : itemsD M3 (.ptr k) with
    | none => rw [e] at q3; exact q3.elim
    | some xs => rw [e] at q3; exact seq e (fun ⟨_, z⟩ => by cases z) q3
  | _ => exact q3.elim)
end
end MM

/-! MMg: defs that change nothing of their callers' (pure ones), their calls; a law's end. -/
namespace MM
open PySem PySem.Spec PyProof.Rows L2

inductive Pr where
  | ok (d : D) | exc (e : Exc) | fail
abbrev PF := List D → Pr
def Pr.fl : Pr → Fl D
  | .ok d => .ok d []
  | .exc e => .exc e []
  | .fail => .fail
def i0 : Nat → Addr := fun _ => 0
/-- a pure def's promise: m its parameters' number -/
def spP (K : PySem.W.Frag) (wd : World) (m : Nat) (G : PF) : Sp := fun vs H Q E => ∃ Fz ds, (∀ a o, Fz a = some o → H a = some o) ∧ ds.length = m ∧ bndL 0 ds ∧ RepL K Fz i0 ds vs ∧ Post K wd E Fz H i0 0 (RD K) Q (G ds).fl
theorem spP_len {K : PySem.W.Frag} {wd : World} {m : Nat} {G : PF} {vs : List V} {H : Hp} {Q : VK} {E : XK} (h : spP K wd m G vs H Q E) : vs.length = m := by
  obtain ⟨Fz, ds, _, hl, _, r, _⟩ := h
  rw [← r.len, hl]

/-! ### what a caller gets back -/
section
variable {K : PySem.W.Frag} {wd : World} {E : XK} {Fz H Fz' H' : Hp} {ι ι' : Nat → Addr} {M : Mem}
theorem Rel.none (h : ∀ a o, Fz a = some o → H a = some o) (ι : Nat → Addr) : Rel K wd Fz H ι [] :=
  ⟨h, fun k mo e => by simp at e, fun k mo e => by simp at e, fun k hk => absurd hk (Nat.not_lt_zero _), fun i j hi => absurd hi (Nat.not_lt_zero _)⟩
theorem ObM.keep0 {M : Mem} (R : Rel K wd Fz H ι M) {k : Nat} {mo : MO} (e : M[k]? = some mo) (hF : ∀ a o, Fz a = some o → Fz' a = some o) (hF0 : Fz (ι k) = Option.none → Fz' (ι k) = Option.none) (hH : ∀ o, H (ι k) = some o → H' (ι k) = some o) : ObM K wd Fz' H' ι (ι k) mo := by
  have ob := R.ob k mo e
  have wf := R.wf k mo e
  cases mo with
  | lst l =>
    obtain ⟨q0, vs, q1, q2⟩ := ob
    exact ⟨hF0 q0, vs, hH _ q1, RepL.up hF (fun _ _ => rfl) _ _ wf q2⟩
  | dct l =>
    obtain ⟨q0, vs, q1, q2, q3⟩ := ob
    exact ⟨hF0 q0, vs, hH _ q1, RepE.up hF (fun _ _ => rfl) _ _ wf q2, q3⟩
  | dcl l =>
    obtain ⟨q0, o, vs, q1, q2, q3⟩ := ob
    exact ⟨hF0 q0, o, vs, hH _ q1, RepE.up hF (fun _ _ => rfl) _ _ wf q2, q3⟩
  | ins C l =>
    obtain ⟨q0, dx, vs, q1, q2⟩ := ob
    exact ⟨hF0 q0, dx, vs, hH _ q1, RepP.up hF (fun _ _ => rfl) _ _ wf q2⟩
  | gone => trivial
theorem pure_back (R : Rel K wd Fz H ι M) (g : Grow Fz H i0 0 Fz' H' ι' 0) (R' : Rel K wd Fz' H' ι' []) : Rel K wd Fz' H' ι M ∧ Grow Fz H ι M.length Fz' H' ι M.length := by
  have keep : ∀ a o, H a = some o → H' a = some o := fun a o e => g.fr a o e fun k hk => absurd hk (Nat.not_lt_zero _)
  refine ⟨⟨R'.fz, fun k mo e => ObM.keep0 R e g.fz (fun h0 => ?_) fun o h => keep _ o h, R.wf, fun k hk => g.th _ (R.occ k hk), R.inj⟩,
    ⟨g.fz, fun _ _ => rfl, Nat.le_refl _, fun k h1 h2 => absurd h2 (by omega), fun a o e _ => keep a o e, g.th, fun a h => ?_⟩⟩
  · cases e2 : Fz' (ι k) with
    | none => rfl
    | some u =>
      rcases g.fn (ι k) (by rw [e2]; exact fun z => by cases z) with z | z | ⟨j, hj, _⟩
      · exact absurd h0 z
      · exact absurd z (R.occ k (List.getElem?_eq_some_iff.mp e).1)
      · exact absurd hj (Nat.not_lt_zero _)
  · rcases g.fn a h with z | z | ⟨j, hj, _⟩
    · exact .inl z
    · exact .inr (.inl z)
    · exact absurd hj (Nat.not_lt_zero _)
theorem rep_bnd0 : (∀ d v, bnd 0 d → RepV K Fz ι d v → RepV K Fz ι' d v) ∧ ∀ l vs, bndL 0 l → RepL K Fz ι l vs → RepL K Fz ι' l vs :=
  ⟨fun d v b r => RepV.up (n := 0) (fun _ _ e => e) (fun k hk => absurd hk (Nat.not_lt_zero _)) d v b r, fun l vs b r => RepL.up (n := 0) (fun _ _ e => e) (fun k hk => absurd hk (Nat.not_lt_zero _)) l vs b r⟩
end
/-- nothing that changes stands in it -/
noncomputable instance (n : Nat) (l : List D) : Decidable (bndL n l) := Classical.propDecidable _
noncomputable instance (n : Nat) (d : D) : Decidable (bnd n d) := Classical.propDecidable _
noncomputable def eCall (m : Nat) (G : PF) (fa : AF) : EF := fun ρ M => (fa ρ M).bind fun ds M1 => if ds.length = m ∧ bndL 0 ds then match G ds with
    | .ok d => if bnd 0 d then .ok d M1 else .fail
    | .exc _ => .fail
    | .fail => .fail
  else .fail
section
variable {X : Cx} {E : XK} {CX : CXT} {k m : Nat} {f : Addr} {fd : FuncData} {ps : List Str} {G : PF} {x : Str} {p pos : Pos} {e : Expr} {es : List Expr} {fa : AF}
theorem call_w {K : PySem.W.Frag} {wd : World} : ∀ σ H Q, wE K wd E (eCall m G fa) σ H Q → tCall (spP K wd m G) [] E (wA K wd E fa) σ H Q := by
  rintro σ H Q ⟨Fz, ι, M, ρ, S, q⟩
  refine ⟨Fz, ι, M, ρ, S, q.first fun ds M1 Fz1 H1 ι1 vs g1 R1 rd q1 => ?_⟩
  split at q1
  · rename_i h
    refine ⟨Fz1, ds, R1.fz, h.1, h.2, by rw [List.append_nil]; exact rep_bnd0.2 _ _ h.2 rd.2, ?_⟩
    cases e : G ds with
    | fail => rw [e] at q1; exact q1.elim
    | exc x => rw [e] at q1; exact q1.elim
    | ok d =>
      rw [e] at q1
      dsimp only at q1
      split at q1
      · rename_i hb
        intro Fz2 H2 ι2 v g2 R2 rv
        obtain ⟨R3, g3⟩ := pure_back R1 g2 R2
        exact q1 Fz2 H2 ι1 v g3 R3 ⟨bnd.up (Nat.zero_le _) d hb, rep_bnd0.1 d v hb rv.2⟩
      · exact q1.elim
  · exact q1.elim
theorem xe_call (F : FnOk X.prog X.w X.K X.mg X.base CX k f fd ps (spP X.K X.w m G)) (hr : Room k X.A) (hm : X.mg x = some (.ref f)) (hk : PySem.W.keepIn X.K (.ref f) = true) (hb : Binds X.K fd ps []) (hx : Passes CX X E) (ha : XA X E (e :: es) fa)
    (hg : Gl X x := by rfl) (hdb : (x == ("__debug__" : Str)) = false := by decide) (he : starEach (e :: es) X.env = (false, eval e X.env) :: starEach es X.env := by rfl) (hpl : (backTo pos (starEach es X.env)).any (·.1) = false := by rfl) :
    XE X E (.Call (.Name x p) (e :: es) [] pos) (eCall m G fa) := (pe_call F hr hg hm hk hb .nil hx ha hdb he hpl).imp call_w
theorem xe_call0 (F : FnOk X.prog X.w X.K X.mg X.base CX k f fd ps (spP X.K X.w m G)) (hr : Room k X.A) (hm : X.mg x = some (.ref f)) (hk : PySem.W.keepIn X.K (.ref f) = true) (hb : Binds X.K fd ps []) (hx : Passes CX X E)
    (hg : Gl X x := by rfl) (hdb : (x == ("__debug__" : Str)) = false := by decide) : XE X E (.Call (.Name x p) [] [] pos) (eCall m G aNil) := (pe_call0 F hr hg hm hk hb .nil hx hdb).imp (by
  intro σ H Q h
  obtain ⟨Fz, ι, M, ρ, S, q⟩ := call_w (K := X.K) σ H Q h
  exact q.now S.rel ⟨trivial, rfl⟩)
end

/-! ### all that a def has made stands for good -/
noncomputable def frzL (f : D → Option D) : List D → Option (List D)
  | [] => some []
  | d :: l => (f d).bind fun d' => (frzL f l).map fun l' => d' :: l'
noncomputable def frz (M : Mem) : Nat → D → Option D
  | 0, d => if bnd 0 d then some d else none
  | n + 1, d => if bnd 0 d then some d else match d with
    | .ptr k => match M[k]? with
      | some (.lst l) => (frzL (frz M n) l).map .lst
      | _ => none
    | .tup l => (frzL (frz M n) l).map .tup
    | .lst l => (frzL (frz M n) l).map .lst
    | _ => none
section
variable {K : PySem.W.Frag} {wd : World} {E : XK} {Fz H Fz' H' : Hp} {ι ι' : Nat → Addr} {M : Mem}
/-- the heap of what stands, with all of the memory -/
noncomputable def allFz (Fz H : Hp) (ι : Nat → Addr) (n : Nat) : Hp := fun a => if ∃ k, k < n ∧ ι k = a then H a else Fz a
theorem allFz_sub (R : Rel K wd Fz H ι M) : ∀ a o, allFz Fz H ι M.length a = some o → H a = some o := fun a o e => by
  unfold allFz at e
  split at e
  · exact e
  · exact R.fz a o e
theorem allFz_up (R : Rel K wd Fz H ι M) : ∀ a o, Fz a = some o → allFz Fz H ι M.length a = some o := fun a o e => by
  unfold allFz
  split
  · exact R.fz a o e
  · exact e
theorem allFz_at (R : Rel K wd Fz H ι M) {k : Nat} (h : k < M.length) : allFz Fz H ι M.length (ι k) = H (ι k) := by
  unfold allFz
  rw [if_pos ⟨k, h, rfl⟩]
mutual
theorem bnd0_of_rep : ∀ (d : D), True := fun _ => trivial
end
theorem frzL_ok {f : D → Option D} {P : D → D → Prop} (hf : ∀ d d', f d = some d' → P d d') : ∀ (l l' : List D), frzL f l = some l' → Paired P l l'
  | [], _, h => by
    cases h
    exact .nil
  | d :: l, _, h => by
    unfold frzL at h
    cases e1 : f d with
    | none => rw [e1] at h; cases h
    | some d' =>
      cases e2 : frzL f l with
      | none => rw [e1, e2] at h; cases h
      | some l' =>
        rw [e1, e2] at h
        cases h
        exact .cons (hf d d' e1) (frzL_ok hf l l' e2)
theorem paired_rep {P : D → D → Prop} {Fz2 : Hp} {ι2 : Nat → Addr} (hp : ∀ d d', P d d' → bnd 0 d' ∧ ∀ v, RepV K Fz ι d v → RepV K Fz2 ι2 d' v) : ∀ {l l' : List D}, Paired P l l' → bndL 0 l' ∧ ∀ vs, RepL K Fz ι l vs → RepL K Fz2 ι2 l' vs
  | _, _, .nil => ⟨trivial, fun vs r => r⟩
  | _, _, .cons h t => by
    obtain ⟨h1, h2⟩ := hp _ _ h
    obtain ⟨t1, t2⟩ := paired_rep hp t
    exact ⟨⟨h1, t1⟩, fun vs ⟨v, r, e, q, q'⟩ => ⟨v, r, e, h2 v q, t2 r q'⟩⟩
theorem frz_ok (R : Rel K wd Fz H ι M) : ∀ (n : Nat) (d d' : D), frz M n d = some d' → bnd 0 d' ∧ ∀ v, RepV K Fz ι d v → RepV K (allFz Fz H ι M.length) i0 d' v := by
  have base : ∀ (d d' : D), bnd 0 d → some d = some d' → bnd 0 d' ∧ ∀ v, RepV K Fz ι d v → RepV K (allFz Fz H ι M.length) i0 d' v := fun d d' b e => by
    have e := Option.some.inj e
    subst e
    exact ⟨b, fun v r => RepV.up (n := 0) (allFz_up R) (fun k hk => absurd hk (Nat.not_lt_zero _)) d v b r⟩
  intro n
  induction n with
  | zero =>
    intro d d' h
    unfold frz at h
    split at h
    · rename_i b
      exact base d d' b h
    · cases h
  | succ n ih =>
    intro d d' h
    unfold frz at h
    split at h
    · rename_i b
      exact base d d' b h
    · cases d with
      | ptr k =>
        dsimp only at h
        split at h
        · rename_i l e
          cases e2 : frzL (frz M n) l with
          | none => rw [e2] at h; cases h
          | some l' =>
            rw [e2] at h
            cases h
            obtain ⟨t1, t2⟩ := paired_rep ih (frzL_ok (P := fun d d' => frz M n d = some d') (fun _ _ h => h) l l' e2)
            refine ⟨t1, fun v r => ?_⟩
            have hk : k < M.length := (List.getElem?_eq_some_iff.mp e).1
            obtain ⟨_, vs, e1, rw⟩ := R.ob k _ e
            exact ⟨ι k, vs, r, (allFz_at R hk).trans e1, t2 vs rw⟩
        · cases h
      | tup l =>
        dsimp only at h
        cases e2 : frzL (frz M n) l with
        | none => rw [e2] at h; cases h
        | some l' =>
          rw [e2] at h
          cases h
          obtain ⟨t1, t2⟩ := paired_rep ih (frzL_ok (P := fun d d' => frz M n d = some d') (fun _ _ h => h) l l' e2)
          exact ⟨t1, fun v ⟨a, vs, ev, hs, r⟩ => ⟨a, vs, ev, SqT.up (allFz_up R) hs, t2 vs r⟩⟩
      | lst l =>
        dsimp only at h
        cases e2 : frzL (frz M n) l with
        | none => rw [e2] at h; cases h
        | some l' =>
          rw [e2] at h
          cases h
          obtain ⟨t1, t2⟩ := paired_rep ih (frzL_ok (P := fun d d' => frz M n d = some d') (fun _ _ h => h) l l' e2)
          exact ⟨t1, fun v ⟨a, vs, ev, hs, r⟩ => ⟨a, vs, ev, allFz_up R _ _ hs, t2 vs r⟩⟩
      | _ => cases h
end
theorem frz_b0 {M : Mem} {n : Nat} {d : D} (h : bnd 0 d) : frz M n d = some d := by
  cases n with
  | zero => unfold frz; rw [if_pos h]
  | succ n => unfold frz; rw [if_pos h]
theorem frzL_b0 {f : D → Option D} (hf : ∀ d, bnd 0 d → f d = some d) : ∀ l : List D, bndL 0 l → frzL f l = some l
  | [], _ => rfl
  | d :: l, h => by
    unfold frzL
    rw [hf d h.1, frzL_b0 hf l h.2]
    rfl
/-- a list of its own, of plain things -/
theorem frz_ptr {M : Mem} {n k : Nat} {l : List D} (e : M[k]? = some (.lst l)) (h : bndL 0 l) : frz M (n + 1) (.ptr k) = some (.lst l) := by
  unfold frz
  rw [if_neg (show ¬ bnd 0 (.ptr k) from Nat.not_lt_zero _)]
  dsimp only
  rw [e]
  dsimp only
  rw [frzL_b0 (fun d hd => frz_b0 hd) l h]
  rfl

/-! ### a pure def by its body -/
/-- what a body's end is worth -/
noncomputable def fin : Fl Fw → Pr
  | .ok (.rt d) M => match frz M 12 d with
    | some d => .ok d
    | none => .fail
  | .ok (.nx _) _ => .ok .non
  | _ => .fail
/-- the answer as it is promised -/
def Pr.le (a b : Pr) : Prop := match a with
  | .fail => True
  | a => b = a
theorem Pr.le_of {a b : Pr} (h : b = a) : a.le b := by
  subst h
  cases b <;> first | trivial | rfl
def startR (N : List Str) (ds : List D) : Ro := ds.map some ++ List.replicate (N.length - ds.length) none
theorem start_sim {K : PySem.W.Frag} {wd : World} {Fz H : Hp} {ι : Nat → Addr} {N : List Str} {ds : List D} {vs : List V} {M : Mem} (R : Rel K wd Fz H ι M) (b : bndL M.length ds) (r : RepL K Fz ι ds vs) : Sim K wd Fz H ι M (startR N ds) (L2.start N vs) := by
  have hl := r.len
  refine ⟨R, by unfold startR L2.start; rw [List.length_append, List.length_append, List.length_map, List.length_map, List.length_replicate, List.length_replicate, hl], fun i d e => ?_⟩
  unfold startR at e
  by_cases hi : i < ds.length
  · rw [List.getElem?_append_left (by rwa [List.length_map]), List.getElem?_map] at e
    cases e2 : ds[i]? with
    | none => rw [e2] at e; cases e
    | some d' =>
      rw [e2] at e
      have e : d' = d := Option.some.inj (Option.some.inj e)
      subst e
      obtain ⟨v, hv, rv⟩ := r.get e2
      refine ⟨bndL_get b e2, v, ?_, rv⟩
      unfold L2.start
      rw [List.getElem?_append_left (by rw [List.length_map]; omega), List.getElem?_map, hv]
      rfl
  · rw [List.getElem?_append_right (by rw [List.length_map]; omega), List.getElem?_replicate] at e
    split at e <;> cases e
section
variable {P : Program} {w : World} {K : PySem.W.Frag} {wd : World} {mg : Str → Option Value} {base : Heap}
theorem fin_w {Fz H : Hp} {G : Pr} {B : Fl Fw} {Q : VK} {E : XK} (hz : ∀ a o, Fz a = some o → H a = some o) (hle : G.le (fin B)) (q : Post K wd E Fz H i0 0 (RD K) Q G.fl) : PostS K wd E0 Fz H i0 0 { nx := fun _ H' => Q .non H', rt := Q } B := by
  cases G with
  | fail => exact q.elim
  | exc e =>
    have hle : fin B = .exc e := hle
    cases B with
    | fail => cases hle
    | exc e M => cases hle
    | ok w M =>
      cases w with
      | nx ρ => cases hle
      | bk ρ => cases hle
      | ct ρ => cases hle
      | rt d =>
        unfold fin at hle
        dsimp only at hle
        split at hle <;> cases hle
  | ok d' =>
    have hle : fin B = .ok d' := hle
    cases B with
    | fail => cases hle
    | exc e M => cases hle
    | ok w M =>
      cases w with
      | bk ρ => cases hle
      | ct ρ => cases hle
      | nx ρ =>
        have hle : Pr.ok .non = Pr.ok d' := hle
        cases hle
        intro Fz1 H1 ι1 σ1 g1 S1
        refine q (allFz Fz1 H1 ι1 M.length) H1 i0 .non ⟨fun a o e => allFz_up S1.rel a o (g1.fz a o e), fun k hk => absurd hk (Nat.not_lt_zero _), Nat.le_refl _, fun k h1 h2 => absurd h2 (Nat.not_lt_zero _), fun a o e _ => g1.fr a o e fun k hk => absurd hk (Nat.not_lt_zero _), g1.th, fun a e => ?_⟩
          (Rel.none (allFz_sub S1.rel) _) ⟨trivial, rfl⟩
        unfold allFz at e
        split at e
        · rename_i hx
          obtain ⟨k, hk, rfl⟩ := hx
          exact .inr (.inl (g1.new k (Nat.zero_le _) hk))
        · rcases g1.fn a e with z | z | ⟨j, hj, _⟩
          · exact .inl z
          · exact .inr (.inl z)
          · exact absurd hj (Nat.not_lt_zero _)
      | rt d =>
        unfold fin at hle
        dsimp only at hle
        split at hle
        · rename_i d2 e2
          cases hle
          intro Fz1 H1 ι1 v g1 R1 b1 r1
          obtain ⟨b2, r2⟩ := frz_ok R1 _ d d' e2
          refine q (allFz Fz1 H1 ι1 M.length) H1 i0 v ⟨fun a o e => allFz_up R1 a o (g1.fz a o e), fun k hk => absurd hk (Nat.not_lt_zero _), Nat.le_refl _, fun k h1 h2 => absurd h2 (Nat.not_lt_zero _), fun a o e _ => g1.fr a o e fun k hk => absurd hk (Nat.not_lt_zero _), g1.th, fun a e => ?_⟩
            (Rel.none (allFz_sub R1) _) ⟨b2, r2 v r1⟩
          unfold allFz at e
          split at e
          · rename_i hx
            obtain ⟨k, hk, rfl⟩ := hx
            exact .inr (.inl (g1.new k (Nat.zero_le _) hk))
          · rcases g1.fn a e with z | z | ⟨j, hj, _⟩
            · exact .inl z
            · exact .inr (.inl z)
            · exact absurd hj (Nat.not_lt_zero _)
        · cases hle
/-- THE RULE for a pure def that raises nothing -/
theorem _root_.L2.Fun.pure {x qual : Str} {st : Stmt} {f : Addr} {fd : FuncData} {N ps : List Str} {k : Nat} {G : PF} (F : Fun K x qual st f fd) (S : FnScope N ps (defScope st))
    (hbody : ∀ (cdv : Value) (A : Around) (outer : List Env) (s : Shared) (H : Hp) (E : XK), Room k (A.deeper (envOfC qual (defScope st) s.heap.objs.size f cdv)) →
      ∃ B, XSs (cxOf CX0 P w K mg base N qual (defScope st) f cdv A outer s H E).nox E0 (defBody st) B ∧ ∀ ds, ds.length = ps.length → bndL 0 ds → (G ds).le (fin (B (startR N ds) []))) : FnOk P w K mg base CX0 (k + 1) f fd ps (spP K w ps.length G) := by
  refine F.ok S (fun vs H Q E h => spP_len h) fun cdv A outer s H vs Q E hr h => ?_
  obtain ⟨B, hB, hle⟩ := hbody cdv A outer s H E hr
  refine ⟨_, hB, ?_⟩
  obtain ⟨Fz, ds, hz, hl, b, r, q⟩ := h
  have R : Rel K w Fz H i0 [] := Rel.none hz _
  exact ⟨Fz, i0, [], startR N ds, start_sim R b r, fin_w hz (hle ds hl b) q⟩
/-- a law: True for every script -/
theorem law_of {f : Addr} {fd : FuncData} {ps : List Str} {k : Nat} {G : PF} (F : FnOk P w K mg base CX0 k f fd ps (spP K w 1 G)) (h : ∀ ns : List Int, ns.length ≤ 63 → G [.scr (ns.map .int)] = .ok (.bl true)) :
    FnOk P w K mg base CX0 k f fd ps fun vs H Q _ => ∃ (a : Addr) (ns : List Int), vs = [.ref a] ∧ SqL K H a (ns.map V.int) ∧ ns.length ≤ 63 ∧ ∀ H', Q (.bl true) H' := by
  refine F.imp fun vs H Q E hs => ?_
  obtain ⟨a, ns, rfl, hS, hlen, q⟩ := hs
  refine ⟨H, [.scr (ns.map .int)], fun _ _ e => e, rfl, ⟨bndL_ints _, trivial⟩, ⟨_, [], rfl, ⟨a, _, rfl, hS, RepL.of_ints _ _ _ _⟩, rfl⟩, ?_⟩
  rw [h ns hlen]
  intro Fz' H' ι' v g R r
  have r : v = V.bl true := r.2
  subst r
  exact q H'
end
end MM

/-! MMh: str.replace by written texts: the rules behind a token that is out. -/
namespace MM
open PySem PySem.Spec PyProof.Rows L2
def iaddD : D → D → Mem → Fl D
  | .int i, .int j, M => .ok (.int (i + j)) M
  | _, _, _ => .fail
theorem os_iadd {K : PySem.W.Frag} {wd : World} {E : XK} : OpS K wd E (rI0 fun i j => .int (i + j)) iaddD := os_i0 (h := fun i j => .int (i + j)) (fun _ _ => ⟨fun _ _ _ => rfl, trivial⟩) (fun a b M => by cases a <;> cases b <;> rfl)
def eRepl (y z : Str) (fo : EF) : EF := fun ρ M => (fo ρ M).bind fun d M1 => match d with
  | .str x => if x.length + (x.length + 1) * z.length ≤ 1000000 then .ok (.str (Txt.replace x y z)) M1 else .fail
  | _ => .fail
section
variable {X : Cx} {E : XK} {o e : Expr} {fo fe : EF} {y z : Str} {j k : Nat} {c0 c1 apos pos p p' : Pos} {st : Stmt} {rest : List Stmt} {f g : SF}
theorem xet_repl (ho : XE X E o fo) (hyz : (y == z) = false := by decide)
    (hst : starEach [.Constant (.str y) j c0, .Constant (.str z) k c1] X.env = [(false, eval (.Constant (.str y) j c0) X.env), (false, eval (.Constant (.str z) k c1) X.env)] := by rfl)
    (hbase : attributeBase o "replace" X.env (eval o X.env) = eval o X.env := by rfl) (hline : (apos.endLine == pos.line) = true := by rfl) :
    PET X (.Call (.Attribute o "replace" apos) [.Constant (.str y) j c0, .Constant (.str z) k c1] [] pos) (wE X.K X.w E (eRepl y z fo)) := by
  intro pins s σ H Q h0 I h
  refine CwR.pet_replC ho hyz hst hbase hline pins s σ H Q h0 I ?_
  obtain ⟨Fz, ι, M, ρ, S, q⟩ := h
  refine ⟨Fz, ι, M, ρ, S, q.first fun d M1 Fz1 H1 ι1 x g1 R1 rd q1 => ?_⟩
  cases d with
  | str t =>
    dsimp only at q1
    split at q1
    · rename_i hz
      exact ⟨t, rd.2, by omega, q1.now R1 ⟨trivial, rfl⟩⟩
    · exact q1.elim
  | _ => exact q1.elim
theorem pet_m1 {id : String} {name : Str} {to te : TE} {r : V → List V → Hp → VK → Prop} (slot : Slot "str" name id) (ty : typeOf (.builtin id) = pure (.type "method_descriptor")) (rule : MtR X id r) (ho : PET X o to) (he : PE X e te)
    (hs : starEach [e] X.env = [(false, eval e X.env)] := by rfl) (hbase : attributeBase o name X.env (eval o X.env) = eval o X.env := by rfl) (hline : (apos.endLine == pos.line) = true := by rfl) :
    PET X (.Call (.Attribute o name apos) [e] [] pos) (tM1 r to te) := by
  intro pins s σ H Q h0 I h
  refine PySem.Call_method1 hbase hs hline (thn (ho pins s σ H _ h0 I h) fun v s1 ⟨x, H1, I1, r1, q1⟩ => ?_)
  obtain ⟨⟨a, rfl⟩, q1⟩ := q1
  obtain ⟨t, rfl⟩ := _root_.id r1
  refine ⟨"str", id, PySem.F.plainAttrs_str, slot, ty, typeIs_str _ _ _, (fun _ e => nomatch e), ?_⟩
  refine Calls.callWith_builtin rfl (Calls.evalArgs_plain (Calls.spliced_cons (thn (he.run pins s1 σ H1 _ I1 q1) fun u s2 ⟨y, H2, I2, r2, q2⟩ => Calls.spliced_nil ?_)))
  exact rule pins s2 σ H2 (.str a) [y] _ [u] Q I2 ⟨t, rfl⟩ (.cons r2 .nil) q2
def eSplitT (fo fe : EF) : EF := fun ρ M => (fo ρ M).bind fun a M1 => match a with
  | .str _ => (fe ρ M1).bind fun d M2 => splitD a [d] M2
  | _ => .fail
theorem xet_split (ho : PET X o (wE X.K X.w E fo)) (he : XE X E e fe) (hs : starEach [e] X.env = [(false, eval e X.env)] := by rfl) (hbase : attributeBase o "split" X.env (eval o X.env) = eval o X.env := by rfl) (hline : (apos.endLine == pos.line) = true := by rfl) :
    PET X (.Call (.Attribute o "split" apos) [e] [] pos) (wE X.K X.w E (eSplitT fo fe)) := by
  intro pins s σ H Q h0 I h
  refine pet_m1 PySem.F.slot_str_split PySem.F.type_str_split mt_split ho he hs hbase hline pins s σ H Q h0 I ?_
  obtain ⟨Fz, ι, M, ρ, S, q⟩ := h
  refine ⟨Fz, ι, M, ρ, S, q.first fun d M1 Fz1 H1 ι1 x g1 R1 rd q1 => ?_⟩
  cases d with
  | str t =>
    dsimp only at q1
    refine ⟨⟨t, rd.2⟩, Fz1, ι1, M1, ρ, S.grow g1 R1, q1.first fun b M2 Fz2 H2 ι2 y g2 R2 rb q2 => ?_⟩
    exact ms_split (K := X.K) (E := E) Fz2 H2 ι2 M2 (.str t) [b] x [y] Q R2 trivial ⟨rb.1, trivial⟩ (g2.rep (d := .str t) trivial rd.2) ⟨y, [], rfl, rb.2, rfl⟩ q2
  | _ => exact q1.elim
theorem xit_list {tg : Expr} (h : PET X e (wE X.K X.w E fe)) : PIT X tg e (wI X.K X.w E (iL fe)) := by
  intro pins s σ H R h0 I q
  refine pit_list h pins s σ H R h0 I ?_
  obtain ⟨Fz, ι, M, ρ, S, q⟩ := q
  refine ⟨Fz, ι, M, ρ, S, q.first fun d M1 Fz1 H1 ι1 x g1 R1 ra q1 => ?_⟩
  cases d with
  | lst l =>
    obtain ⟨a, vs, ex, hs, rl⟩ := ra.2
    have hl : SqL X.K H1 a vs := SqL.of (R1.fz _ _ hs)
    exact ⟨a, ex, ⟨vs, hl⟩, q1.now R1 (it_list ra.1 fun Fz2 H2 ι2 M2 h1 h2 h3 R2 _ => ⟨vs, SqL.of (R2.fz _ _ (h1 _ _ hs)), RepL.up h1 h2 l vs ra.1 rl⟩)⟩
  | scr l =>
    obtain ⟨a, vs, ex, hs, rl⟩ := ra.2
    exact ⟨a, ex, ⟨vs, SqL.up R1.fz hs⟩, q1.now R1 (it_list ra.1 fun Fz2 H2 ι2 M2 h1 h2 h3 R2 _ => ⟨vs, SqL.up R2.fz (SqL.up h1 hs), RepL.up h1 h2 l vs ra.1 rl⟩)⟩
  | ptr k =>
    dsimp only at q1
    split at q1
    · rename_i l e
      obtain ⟨_, vs, e1, rl⟩ := R1.ob k _ e
      have ex : x = .ref (ι1 k) := ra.2
      refine ⟨ι1 k, ex, ⟨vs, SqL.of e1⟩, q1.now R1 (it_list (R1.wf k _ e) fun Fz2 H2 ι2 M2 h1 h2 h3 R2 ok => ?_)⟩
      have ok : M2[k]? = some (.lst l) := ok
      obtain ⟨_, vs2, e2, rl2⟩ := R2.ob k _ ok
      rw [h2 k ra.1] at e2
      exact ⟨vs2, SqL.of e2, rl2⟩
    · exact q1.elim
  | _ => exact q1.elim
/-- behind a token -/
theorem xst_for {tg iter : Expr} {body : List Stmt} {fi : IF} {g : GF} {ws : List Nat} (hp : PassesOwn (model X.prog X.w) X.A X.env X.xe) (hc : X.calm = true) (hi : PIT X tg iter (wI X.K X.w E fi)) (hg : PG X tg (wT X.K X.w ws g)) (hb : XSs X E body f) (hs : ∀ x, foldedSetIterable iter X.env x = pure x := by intro _; rfl) :
    PST X (.For tg iter body [] pos) (wS X.K X.w E (sFor fi g f)) := fun pins s σ H D h0 I q => pst_for hp hc hi hg hb hs pins s σ H D h0 I (for_w D σ H q)
theorem xsst_of (h : XSs X E rest f) : PSsT X rest (wS X.K X.w E f) := PSsT.of h
theorem xsst_cons (h1 : XS X E st f) (h2 : PSsT X rest (wS X.K X.w E g)) : PSsT X (st :: rest) (wS X.K X.w E (sSeq f g)) := fun pins s σ H D h0 I q => psst_cons (PST.of h1) h2 pins s σ H D h0 I (seq_w D σ H q)
theorem xsst_consT (h1 : PST X st (wS X.K X.w E f)) (h2 : PSsT X rest (wS X.K X.w E g)) : PSsT X (st :: rest) (wS X.K X.w E (sSeq f g)) := fun pins s σ H D h0 I q => psst_cons h1 h2 pins s σ H D h0 I (seq_w D σ H q)
/-- name = a written number: a token is out -/
theorem xss_tok {i j : Nat} {x : Str} {c : Int} {cpos pos' : Pos} (hN : X.N.Nodup) (h2 : PSsT X rest (wS X.K X.w E g)) (hi : X.N[i]? = some x := by rfl) (hx : Loc X.env.scope x := by first | exact Or.inl rfl | exact Or.inr rfl)
    (hs : swapsWith (.Constant (.int c) j cpos) (some (.Name x pos')) pos.line X.env = pure false := by rfl) (hf : X.fn x = true ∨ X.env.scope.names.lookup x = some .local := by first | exact .inl rfl | exact .inr rfl | assumption) :
    XSs X E (.Assign [.Name x pos'] (.Constant (.int c) j cpos) pos :: rest) (sSeq (sSet i (eC (.int c))) g) := by
  refine ⟨fun pins s σ H D I h => ?_⟩
  refine wpAny_execs_cons (wpAny_Assign_Name (wpAny_Constant_int ?_) hs)
  refine wpAny_mono (PySem.wpAny_toks (store_ok (v := V.int c) (u := Value.int c s.toks) (Q := fun _ s2 => Inv X pins (σ.set i (some (V.int c))) H s2) (I.tok (s.toks + 1)) hN hi hx ⟨s.toks, rfl⟩ (fun _ I2 => I2) hf)) (fun _ s2 q => ?_) fun _ _ z => z.2
  have hk : s.toks + 1 ≤ s2.toks := q.1
  refine h2 pins s2 _ H D (by omega) q.2 ?_
  obtain ⟨Fz, ι, M, ρ, S, q3⟩ := h
  exact ⟨Fz, ι, M, _, S.set i (d := .int c) (v := .int c) trivial rfl, q3⟩
end
end MM
namespace MM
open PySem PySem.Spec PyProof.Rows L2
/-! ### a changing list that a name holds stands for good from here on -/
noncomputable def sFrz (i : Nat) (f : SF) : SF := fun ρ M => match ρ[i]? with
  | some (some (.ptr k)) => match M[k]? with
    | some (.lst l) => f (ρ.set i (some (.lst l))) (M.set k .gone)
    | _ => .fail
  | _ => .fail
section
variable {X : Cx} {E : XK} {st : Stmt} {sts : List Stmt} {f : SF} {K : PySem.W.Frag} {wd : World}
theorem frz_w (i : Nat) : ∀ D σ H, wS K wd E (sFrz i f) D σ H → wS K wd E f D σ H := by
  rintro D σ H ⟨Fz, ι, M, ρ, S, q⟩
  unfold sFrz at q
  split at q
  · rename_i k hk
    split at q
    · rename_i l e
      obtain ⟨b, v, hv, rv⟩ := S.slot i _ hk
      have rv : v = .ref (ι k) := rv
      subst rv
      have hkl : k < M.length := (List.getElem?_eq_some_iff.mp e).1
      obtain ⟨f0, vs, h1, rl⟩ := S.rel.ob k _ e
      have bl : bndL M.length l := S.rel.wf k _ e
      have up : ∀ a u, Fz a = some u → upd Fz (ι k) (.lst vs) a = some u := fun a u e => by rw [upd_ne (ne_of_none e f0)]; exact e
      have hl : (M.set k MO.gone).length = M.length := by simp
      have R2 : Rel K wd (upd Fz (ι k) (.lst vs)) H ι (M.set k .gone) := by
        refine ⟨fun a u e => ?_, fun j mo e => ?_, fun j mo e => ?_, fun j hj => S.rel.occ j (by omega), fun a b ha hb e => S.rel.inj a b (by omega) (by omega) e⟩
        · by_cases z : a = ι k
          · subst z; rw [upd_same] at e; rw [h1]; exact e
          · rw [upd_ne z] at e; exact S.rel.fz a u e
        · by_cases z : j = k
          · subst z
            rw [List.getElem?_set_self hkl] at e
            have e := Option.some.inj e
            subst e
            trivial
          · rw [List.getElem?_set_ne (Ne.symm z)] at e
            have hj : j < M.length := (List.getElem?_eq_some_iff.mp e).1
            exact ObM.keep (m := 0) S.rel e up (upd_ne fun q => z (S.rel.inj _ _ hj hkl q)) (fun _ _ => rfl) rfl
        · rw [hl]
          by_cases z : j = k
          · subst z
            rw [List.getElem?_set_self hkl] at e
            have e := Option.some.inj e
            subst e
            trivial
          · rw [List.getElem?_set_ne (Ne.symm z)] at e
            exact S.rel.wf j mo e
      have g2 : Grow Fz H ι M.length (upd Fz (ι k) (.lst vs)) H ι (M.set k MO.gone).length :=
        ⟨up, fun _ _ => rfl, by omega, fun j a b => by omega, fun a o e _ => e, fun a e => e, fun a e => by
          by_cases z : a = ι k
          · exact .inr (.inr ⟨k, hkl, z.symm⟩)
          · rw [upd_ne z] at e; exact .inl e⟩
      have S2 := S.grow g2 R2
      refine ⟨_, ι, M.set k .gone, ρ.set i (some (.lst l)), ?_, PostS.grow g2 q⟩
      have S3 := S2.set i (d := .lst l) (v := .ref (ι k)) (by rw [hl]; exact bl) ⟨ι k, vs, rfl, upd_same, RepL.up up (fun _ _ => rfl) l vs bl rl⟩
      have e3 : σ.set i (some (.ref (ι k))) = σ := by
        refine List.ext_getElem? fun j => ?_
        by_cases z : j = i
        · subst z
          rw [List.getElem?_set_self (List.getElem?_eq_some_iff.mp hv).1, hv]
        · rw [List.getElem?_set_ne (Ne.symm z)]
      rw [e3] at S3
      exact S3
    · exact q.elim
  · exact q.elim
theorem xs_frz (i : Nat) (h : XS X E st f) : XS X E st (sFrz i f) := h.imp (frz_w i)
end
end MM

/-! MMi: defs that read and change the memory (spM), methods, instances and their fields. -/
namespace MM
open PySem PySem.Spec PyProof.Rows L2

abbrev MF := List D → Mem → Fl D
/-- the promise of a def over the memory -/
def spM (K : PySem.W.Frag) (wd : World) (m : Nat) (G : MF) : Sp := fun vs H Q E => ∃ Fz ι M ds, Rel K wd Fz H ι M ∧ ds.length = m ∧ bndL M.length ds ∧ RepL K Fz ι ds vs ∧ Post K wd E Fz H ι M.length (RD K) Q (G ds M)
theorem spM_len {K : PySem.W.Frag} {wd : World} {m : Nat} {G : MF} {vs : List V} {H : Hp} {Q : VK} {E : XK} (h : spM K wd m G vs H Q E) : vs.length = m := by
  obtain ⟨Fz, ι, M, ds, _, hl, _, r, _⟩ := h
  rw [← r.len, hl]
/-- a body's end -/
def finM : Fl Fw → Fl D
  | .ok (.rt d) M => .ok d M
  | .ok (.nx _) M => .ok .non M
  | _ => .fail
def failM : MF := fun _ _ => .fail
noncomputable def eCallM (m : Nat) (G : MF) (fa : AF) : EF := fun ρ M => (fa ρ M).bind fun ds M1 => if ds.length = m then G ds M1 else .fail

section
variable {P : Program} {w : World} {K : PySem.W.Frag} {wd : World} {mg : Str → Option Value} {base : Heap}
theorem finM_w {Fz H : Hp} {ι : Nat → Addr} {n : Nat} {B : Fl Fw} {Q : VK} {E : XK} (q : Post K wd E Fz H ι n (RD K) Q (finM B)) : PostS K wd E0 Fz H ι n { nx := fun _ H' => Q .non H', rt := Q } B := by
  cases B with
  | fail => exact q
  | exc e M => exact q.elim
  | ok a M =>
    cases a with
    | rt d => exact fun Fz1 H1 ι1 v g R b r => q Fz1 H1 ι1 v g R ⟨b, r⟩
    | nx ρ => exact fun Fz1 H1 ι1 σ g S => q Fz1 H1 ι1 .non g S.rel ⟨trivial, rfl⟩
    | bk ρ => exact q.elim
    | ct ρ => exact q.elim
/-- THE RULE for a def over the memory that raises nothing -/
theorem _root_.L2.Fun.mem {x qual : Str} {st : Stmt} {f : Addr} {fd : FuncData} {N ps : List Str} {k : Nat} {B : SF} (F : Fun K x qual st f fd) (S : FnScope N ps (defScope st))
    (hbody : ∀ (cdv : Value) (A : Around) (outer : List Env) (s : Shared) (H : Hp) (E : XK), Room k (A.deeper (envOfC qual (defScope st) s.heap.objs.size f cdv)) →
      XSs (cxOf CX0 P w K mg base N qual (defScope st) f cdv A outer s H E).nox E0 (defBody st) B) : FnOk P w K mg base CX0 (k + 1) f fd ps (spM K w ps.length fun ds M => finM (B (startR N ds) M)) := by
  refine F.ok S (fun vs H Q E h => spM_len h) fun cdv A outer s H vs Q E hr h => ?_
  refine ⟨_, hbody cdv A outer s H E hr, ?_⟩
  obtain ⟨Fz, ι, M, ds, R, hl, b, r, q⟩ := h
  exact ⟨Fz, ι, M, startR N ds, start_sim R b r, finM_w q⟩
/-- no fuel -/
theorem _root_.L2.Fun.mem0 {x qual : Str} {st : Stmt} {f : Addr} {fd : FuncData} {N ps : List Str} {k : Nat} (F : Fun K x qual st f fd) (S : FnScope N ps (defScope st)) : FnOk P w K mg base CX0 (k + 1) f fd ps (spM K w ps.length failM) := by
  refine F.ok S (fun vs H Q E h => spM_len h) fun cdv A outer s H vs Q E hr h => ?_
  obtain ⟨Fz, ι, M, ds, R, hl, b, r, q⟩ := h
  exact q.elim
theorem _root_.L2.Fun.pure0 {x qual : Str} {st : Stmt} {f : Addr} {fd : FuncData} {N ps : List Str} {k : Nat} (F : Fun K x qual st f fd) (S : FnScope N ps (defScope st)) : FnOk P w K mg base CX0 (k + 1) f fd ps (spP K w ps.length fun _ => .fail) := by
  refine F.ok S (fun vs H Q E h => spP_len h) fun cdv A outer s H vs Q E hr h => ?_
  obtain ⟨Fz, ds, hz, hl, b, r, q⟩ := h
  exact q.elim
/-- a def over no memory: pure -/
theorem _root_.L2.FnOk.weak {f : Addr} {fd : FuncData} {ps : List Str} {k j : Nat} {sp : Sp} (F : FnOk P w K mg base CX0 k f fd ps sp) (h : k ≤ j) : FnOk P w K mg base CX0 j f fd ps sp := F.mono h
end

section
variable {X : Cx} {E : XK} {k : Nat} {f C : Addr} {fd : FuncData} {ps : List Str} {m : Nat} {G : MF} {x mn : Str} {p pos apos : Pos} {e o : Expr} {es : List Expr} {fa : AF} {fo : EF} {CX : CXT}
theorem callM_w {K : PySem.W.Frag} {wd : World} : ∀ σ H Q, wE K wd E (eCallM m G fa) σ H Q → tCall (spM K wd m G) [] E (wA K wd E fa) σ H Q := by
  rintro σ H Q ⟨Fz, ι, M, ρ, S, q⟩
  refine ⟨Fz, ι, M, ρ, S, q.first fun ds M1 Fz1 H1 ι1 vs g1 R1 rd q1 => ?_⟩
  split at q1
  · rename_i h
    exact ⟨Fz1, ι1, M1, ds, R1, h, rd.1, by rw [List.append_nil]; exact rd.2, q1⟩
  · exact q1.elim
theorem xe_callM (F : FnOk X.prog X.w X.K X.mg X.base CX k f fd ps (spM X.K X.w m G)) (hr : Room k X.A) (hm : X.mg x = some (.ref f)) (hk : PySem.W.keepIn X.K (.ref f) = true) (hb : Binds X.K fd ps []) (hx : Passes CX X E) (ha : XA X E (e :: es) fa)
    (hg : Gl X x := by rfl) (hdb : (x == ("__debug__" : Str)) = false := by decide) (he : starEach (e :: es) X.env = (false, eval e X.env) :: starEach es X.env := by rfl) (hpl : (backTo pos (starEach es X.env)).any (·.1) = false := by rfl) :
    XE X E (.Call (.Name x p) (e :: es) [] pos) (eCallM m G fa) := (pe_call F hr hg hm hk hb .nil hx ha hdb he hpl).imp callM_w
theorem xe_callM0 (F : FnOk X.prog X.w X.K X.mg X.base CX k f fd ps (spM X.K X.w m G)) (hr : Room k X.A) (hm : X.mg x = some (.ref f)) (hk : PySem.W.keepIn X.K (.ref f) = true) (hb : Binds X.K fd ps []) (hx : Passes CX X E)
    (hg : Gl X x := by rfl) (hdb : (x == ("__debug__" : Str)) = false := by decide) : XE X E (.Call (.Name x p) [] [] pos) (eCallM m G aNil) := (pe_call0 F hr hg hm hk hb .nil hx hdb).imp (by
  intro σ H Q h
  obtain ⟨Fz, ι, M, ρ, S, q⟩ := callM_w (K := X.K) σ H Q h
  exact q.now S.rel ⟨trivial, rfl⟩)

/-- o.m(..) of an instance of C -/
noncomputable def eMeth (C : Addr) (mn : Str) (m : Nat) (G : MF) (fo : EF) (fa : AF) : EF := fun ρ M => (fo ρ M).bind fun a M1 => match a with
  | .ptr k => match M1[k]? with
    | some (.ins C' fs) => if C' = C ∧ fs.lookup mn = none then (fa ρ M1).bind fun l M2 => if l.length + 1 = m then G (a :: l) M2 else .fail else .fail
    | _ => .fail
  | _ => .fail
theorem RepP.lookup {K : PySem.W.Frag} {Fz : Hp} {ι : Nat → Addr} {n : Nat} (f : Str) : ∀ {l : List (Str × D)} {vs : List (Str × V)}, bndP n l → RepP K Fz ι l vs → (l.lookup f = none → vs.lookup f = none) ∧ ∀ d, l.lookup f = some d → bnd n d ∧ ∃ v, vs.lookup f = some v ∧ RepV K Fz ι d v
  | [], _, _, r => by
    have r : _ = [] := r
    subst r
    exact ⟨fun _ => rfl, fun d e => by cases e⟩
  | (g, d) :: l, _, b, r => by
    obtain ⟨v, r', e, q1, q2⟩ := r
    subst e
    have ih := RepP.lookup f b.2 q2
    rw [List.lookup_cons, List.lookup_cons]
    by_cases h : f == g
    · rw [h]
      refine ⟨fun z => absurd (show some d = none from z) (by simp), fun d' e => ?_⟩
      have e : some d = some d' := e
      cases e
      exact ⟨b.1, v, rfl, q1⟩
    · have h : (f == g) = false := by simpa using h
      rw [h]
      exact ih
theorem meth_w {K : PySem.W.Frag} {wd : World} : ∀ σ H Q, wE K wd E (eMeth C mn m G fo fa) σ H Q → tMeth C mn (spM K wd m G) [] E (wE K wd E fo) (wA K wd E fa) σ H Q := by
  rintro σ H Q ⟨Fz, ι, M, ρ, S, q⟩
  refine ⟨Fz, ι, M, ρ, S, q.first fun a M1 Fz1 H1 ι1 x g1 R1 ra q1 => ?_⟩
  try dsimp only at q1
  split at q1
  · rename_i k
    split at q1
    · rename_i C' fs e
      split at q1
      · rename_i h
        obtain ⟨hC, hn⟩ := h
        subst hC
        obtain ⟨_, dx, vs, e1, r1⟩ := R1.ob k _ e
        have ra2 : x = _ := ra.2
        subst ra2
        refine ⟨ι1 k, dx, vs, rfl, e1, (RepP.lookup mn (R1.wf k _ e) r1).1 hn, Fz1, ι1, M1, ρ, S.grow g1 R1, q1.first fun l M2 Fz2 H2 ι2 us g2 R2 rl q2 => ?_⟩
        split at q2
        · rename_i hl
          exact ⟨Fz2, ι2, M2, .ptr k :: l, R2, hl, ⟨Nat.lt_of_lt_of_le ra.1 g2.le, rl.1⟩, by
            rw [List.append_nil]
            exact ⟨_, us, rfl, by show V.ref (ι1 k) = V.ref (ι2 k); rw [g2.io k ra.1], rl.2⟩, q2⟩
        · exact q2.elim
      · exact q1.elim
    · exact q1.elim
  · exact q1.elim
theorem xe_meth {pl : Sem Bool} (c : Cls X.K C) (hm : Meth X.K C mn f) (F : FnOk X.prog X.w X.K X.mg X.base CX k f fd ps (spM X.K X.w m G)) (hr : Room k X.A) (hb : Binds X.K fd ps []) (hx : Passes CX X E) (he : XE X E o fo) (ha : XA X E (e :: es) fa)
    (hst : starEach (e :: es) X.env = (false, eval e X.env) :: starEach es X.env := by rfl) (hpl : (backTo pos (starEach es X.env)).any (·.1) = false := by rfl)
    (ht : eval (.Call (.Attribute o mn apos) (e :: es) [] pos) X.env = (do
      let ov ← eval o X.env
      standAt apos.atName
      let (f, first) ← holding [ov] (getMethod ov mn pl)
      callWith pos f first (backTo pos (starEach (e :: es) X.env)) (backToKw pos (keywordEach [] X.env))) := by rfl) :
    XE X E (.Call (.Attribute o mn apos) (e :: es) [] pos) (eMeth C mn m G fo fa) := (pe_meth (pl := pl) he c hm F hr hb .nil hx ha hst hpl ht).imp meth_w
theorem xe_meth0 {pl : Sem Bool} (c : Cls X.K C) (hm : Meth X.K C mn f) (F : FnOk X.prog X.w X.K X.mg X.base CX k f fd ps (spM X.K X.w m G)) (hr : Room k X.A) (hb : Binds X.K fd ps []) (hx : Passes CX X E) (he : XE X E o fo)
    (ht : eval (.Call (.Attribute o mn apos) [] [] pos) X.env = (do
      let ov ← eval o X.env
      standAt apos.atName
      let (f, first) ← holding [ov] (getMethod ov mn pl)
      callWith pos f first (backTo pos (starEach [] X.env)) (backToKw pos (keywordEach [] X.env))) := by rfl) :
    XE X E (.Call (.Attribute o mn apos) [] [] pos) (eMeth C mn m G fo aNil) := (pe_meth0 (pl := pl) he c hm F hr hb .nil hx ht).imp (by
  rintro σ H Q ⟨Fz, ι, M, ρ, S, q⟩
  refine ⟨Fz, ι, M, ρ, S, q.first fun a M1 Fz1 H1 ι1 x g1 R1 ra q1 => ?_⟩
  try dsimp only at q1
  split at q1
  · rename_i k
    split at q1
    · rename_i C' fs e
      split at q1
      · rename_i h
        obtain ⟨hC, hn⟩ := h
        subst hC
        obtain ⟨_, dx, vs, e1, r1⟩ := R1.ob k _ e
        have ra2 : x = _ := ra.2
        subst ra2
        refine ⟨ι1 k, dx, vs, rfl, e1, (RepP.lookup mn (R1.wf k _ e) r1).1 hn, ?_⟩
        have q1 : Post _ _ E Fz1 H1 ι1 M1.length (RD _) Q (if ([] : List D).length + 1 = m then G [.ptr k] M1 else .fail) := q1
        split at q1
        · rename_i hl
          exact ⟨Fz1, ι1, M1, [.ptr k], R1, hl, ⟨ra.1, trivial⟩, ⟨_, [], rfl, rfl, rfl⟩, q1⟩
        · exact q1.elim
      · exact q1.elim
    · exact q1.elim
  · exact q1.elim)

/-- C(..) -/
noncomputable def eMake (C : Addr) (m : Nat) (G : MF) (fa : AF) : EF := fun ρ M => (fa ρ M).bind fun l M1 => if l.length + 1 = m then
  (G (.ptr M1.length :: l) (M1 ++ [.ins C []])).bind fun d M2 => if d = .non then .ok (.ptr M1.length) M2 else .fail else .fail
theorem make_w {K : PySem.W.Frag} {wd : World} : ∀ σ H Q, wE K wd E (eMake C m G fa) σ H Q → tMake C (spM K wd m G) [] E (wA K wd E fa) σ H Q := by
  rintro σ H Q ⟨Fz, ι, M, ρ, S, q⟩
  refine ⟨Fz, ι, M, ρ, S, q.first fun l M1 Fz1 H1 ι1 vs g1 R1 rl q1 x dx hx hdx hne => ?_⟩
  split at q1
  · rename_i hl
    obtain ⟨f1, f2⟩ := R1.fresh hdx
    have R2 := R1.side (o := .own x) f1 f2
    have gs : Grow Fz1 H1 ι1 M1.length Fz1 (upd H1 dx (.own x)) ι1 M1.length := (Grow.refl _ _ _ _).side hdx
    have hx2 : upd H1 dx (.own x) x = none := by rw [upd_ne (Ne.symm hne)]; exact hx
    obtain ⟨R3, g3⟩ := R2.alloc (p := x) (o := .ins C dx []) (mo := .ins C []) hx2 trivial fun H' ι' e _ z => ⟨z, dx, [], e, rfl⟩
    have g4 := gs.trans g3
    refine ⟨Fz1, _, _, .ptr M1.length :: l, R3, hl, ⟨by simp [bnd], bndL.up (by simp) _ rl.1⟩, ?_, ?_⟩
    · rw [List.append_nil]
      exact ⟨_, vs, rfl, by show V.ref x = V.ref (ext ι1 M1.length x M1.length); rw [ext_same], g4.repL rl.1 rl.2⟩
    · refine (Post.grow g4 q1).first fun d M5 Fz5 H5 ι5 b g5 R5 rb q5 => ?_
      split at q5
      · rename_i hd
        subst hd
        refine ⟨rb.2, q5.now R5 ⟨Nat.lt_of_lt_of_le (by simp) g5.le, ?_⟩⟩
        show V.ref x = V.ref (ι5 M1.length)
        rw [g5.io _ (by simp), ext_same]
      · exact q5.elim
  · exact q1.elim
theorem xe_make (Mm : Mk X.K C f) (F : FnOk X.prog X.w X.K X.mg X.base CX k f fd ps (spM X.K X.w m G)) (hr : Room (k + 1) X.A) (hm : X.mg x = some (.ref C)) (hb : Binds X.K fd ps []) (hx : Passes CX X E) (ha : XA X E (e :: es) fa)
    (hg : Gl X x := by rfl) (hdb : (x == ("__debug__" : Str)) = false := by decide) (he : starEach (e :: es) X.env = (false, eval e X.env) :: starEach es X.env := by rfl) (hpl : (backTo pos (starEach es X.env)).any (·.1) = false := by rfl) :
    XE X E (.Call (.Name x p) (e :: es) [] pos) (eMake C m G fa) := (pe_make Mm F hr hg hm hb .nil hx ha hdb he hpl).imp make_w
theorem xe_make0 (Mm : Mk X.K C f) (F : FnOk X.prog X.w X.K X.mg X.base CX k f fd ps (spM X.K X.w m G)) (hr : Room (k + 1) X.A) (hm : X.mg x = some (.ref C)) (hb : Binds X.K fd ps []) (hx : Passes CX X E)
    (hg : Gl X x := by rfl) (hdb : (x == ("__debug__" : Str)) = false := by decide) : XE X E (.Call (.Name x p) [] [] pos) (eMake C m G aNil) := (pe_make0 Mm F hr hg hm hb .nil hx hdb).imp (by
  intro σ H Q h
  obtain ⟨Fz, ι, M, ρ, S, q⟩ := make_w (K := X.K) σ H Q h
  exact q.now S.rel ⟨trivial, rfl⟩)

/-- e.f -/
def eFld (Cs : List Addr) (f : Str) (fo : EF) : EF := fun ρ M => (fo ρ M).bind fun a M1 => match a with
  | .ptr k => match M1[k]? with
    | some (.ins C fs) => if C ∈ Cs then match fs.lookup f with
        | some d => .ok d M1
        | none => .fail
      else .fail
    | _ => .fail
  | _ => .fail
theorem xe_fld {Cs : List Addr} {fl : Str} (hC : ∀ C ∈ Cs, Cls X.K C ∧ NoAttr X.K C fl) (he : XE X E o fo) (hb : attributeBase o fl X.env (eval o X.env) = eval o X.env := by rfl) : XE X E (.Attribute o fl pos) (eFld Cs fl fo) := (pe_fld he hb).imp (by
  rintro σ H Q ⟨Fz, ι, M, ρ, S, q⟩
  refine ⟨Fz, ι, M, ρ, S, q.first fun a M1 Fz1 H1 ι1 x g1 R1 ra q1 => ?_⟩
  try dsimp only at q1
  split at q1
  · rename_i k
    split at q1
    · rename_i C fs e
      split at q1
      · rename_i hm
        split at q1
        · rename_i d hd
          obtain ⟨_, dx, vs, e1, r1⟩ := R1.ob k _ e
          have ra2 : x = _ := ra.2
          subst ra2
          obtain ⟨bd, v, hv, rv⟩ := (RepP.lookup fl (R1.wf k _ e) r1).2 d hd
          exact ⟨ι1 k, C, dx, vs, v, rfl, e1, (hC C hm).1, (hC C hm).2, hv, q1.now R1 ⟨bd, rv⟩⟩
        · exact q1.elim
      · exact q1.elim
    · exact q1.elim
  · exact q1.elim)
def putD (f : Str) (v : D) : List (Str × D) → List (Str × D)
  | [] => [(f, v)]
  | (g, x) :: r => if g = f then (g, v) :: r else (g, x) :: putD f v r
theorem RepP.put {K : PySem.W.Frag} {Fz : Hp} {ι : Nat → Addr} {n : Nat} (f : Str) {d : D} {v : V} (bd : bnd n d) (rd : RepV K Fz ι d v) : ∀ {l : List (Str × D)} {vs : List (Str × V)}, bndP n l → RepP K Fz ι l vs → bndP n (putD f d l) ∧ RepP K Fz ι (putD f d l) (putF f v vs) ∧ l.length = vs.length
  | [], _, _, r => by
    have r : _ = [] := r
    subst r
    exact ⟨⟨bd, trivial⟩, ⟨v, [], rfl, rd, rfl⟩, rfl⟩
  | (g, x) :: l, _, b, r => by
    obtain ⟨y, r', e, q1, q2⟩ := r
    subst e
    obtain ⟨h1, h2, h3⟩ := RepP.put f bd rd b.2 q2
    unfold putD putF
    by_cases h : g = f
    · rw [if_pos h, if_pos h]
      exact ⟨⟨bd, b.2⟩, ⟨v, r', rfl, rd, q2⟩, by rw [List.length_cons, List.length_cons, h3]⟩
    · rw [if_neg h, if_neg h]
      exact ⟨⟨b.1, h1⟩, ⟨y, _, rfl, q1, h2⟩, by rw [List.length_cons, List.length_cons, h3]⟩
/-- e.f = v -/
def sFldF (Cs : List Addr) (f : Str) (fo fv : EF) : SF := fun ρ M => (fv ρ M).bind fun d M1 => (fo ρ M1).bind fun a M2 => match a with
  | .ptr k => match M2[k]? with
    | some (.ins C fs) => if C ∈ Cs ∧ fs.length < 1000 then .ok (.nx ρ) (M2.set k (.ins C (putD f d fs))) else .fail
    | _ => .fail
  | _ => .fail
theorem xs_fld {Cs : List Addr} {fl : Str} {value : Expr} {fv : EF} {pos' : Pos} (hC : ∀ C ∈ Cs, Cls X.K C ∧ NoAttr X.K C fl) (he : XE X E o fo) (hv : XE X E value fv) (hs : swapsWith value (some (.Attribute o fl pos')) pos.line X.env = pure false := by rfl) :
    XS X E (.Assign [.Attribute o fl pos'] value pos) (sFldF Cs fl fo fv) := (ps_fld he hv hs).imp (by
  rintro D σ H ⟨Fz, ι, M, ρ, S, q⟩
  refine ⟨Fz, ι, M, ρ, S, q.first fun d M1 Fz1 H1 ι1 y g1 R1 rd q1 => ?_⟩
  have S1 := S.grow g1 R1
  refine ⟨Fz1, ι1, M1, ρ, S1, q1.first fun a M2 Fz2 H2 ι2 x g2 R2 ra q2 => ?_⟩
  try dsimp only at q2
  split at q2
  · rename_i k
    split at q2
    · rename_i C fs e
      split at q2
      · rename_i hm
        obtain ⟨hf, dx, vs, e1, r1⟩ := R2.ob k _ e
        have ra2 : x = _ := ra.2
        subst ra2
        obtain ⟨b3, r3, hl⟩ := RepP.put fl (bnd.up g2.le d rd.1) (g2.rep rd.1 rd.2) (R2.wf k _ e) r1
        refine ⟨ι2 k, C, dx, vs, rfl, e1, (hC C hm.1).1, (hC C hm.1).2, by rw [← hl]; exact hm.2, ?_⟩
        obtain ⟨R3, g3⟩ := R2.write (k := k) (o := .ins C dx (putF fl y vs)) (mo := .ins C (putD fl d fs)) ra.1 hf b3 ⟨hf, dx, _, upd_same, r3⟩
        exact q2 _ _ _ _ g3 ((S1.grow g2 R2).grow g3 R3)
      · exact q2.elim
    · exact q2.elim
  · exact q2.elim)
end
end MM

/-! MMj: dicts with keys of any kind (whole numbers, texts, None, tuples of these, side by side): finding and storing, over the bare heap. -/
namespace MM
open PySem PySem.Spec PyProof.Rows L2
open Sem (wp)

def KeyIs (h : Heap) (k : NestedKey) (v : Value) : Prop := NestedIs h k v ∧ k.depth ≤ 8
abbrev Ent := NestedKey × Value × Value
def entA (w : World) (x : Ent) : DictEntry := ⟨x.1.hash w, x.2.1, x.2.2⟩
def atA (xs : List Ent) (k : NestedKey) : Option (Value × Value) := (xs.find? fun x => decide (x.1 = k)).map (·.2)
def putA (k : NestedKey) (v : Value) (x : Ent) : Ent := if x.1 = k then (x.1, x.2.1, v) else x
def storeA (xs : List Ent) (k : NestedKey) (kv v : Value) : List Ent := if (atA xs k).isSome then xs.map (putA k v) else xs ++ [(k, kv, v)]
theorem atA_of_get {xs : List Ent} (hn : (xs.map (·.1)).Nodup) {i : Nat} {k : NestedKey} {p : Value × Value} (hx : xs[i]? = some (k, p)) : atA xs k = some p := by
  induction xs generalizing i with
  | nil => simp at hx
  | cons x rest ih =>
    rw [List.map_cons, List.nodup_cons] at hn
    cases i with
    | zero =>
      simp only [List.getElem?_cons_zero, Option.some.injEq] at hx
      subst hx
      simp [atA]
    | succ j =>
      simp only [List.getElem?_cons_succ] at hx
      have hmem : k ∈ rest.map (·.1) := List.mem_map.mpr ⟨(k, p), List.mem_of_getElem? hx, rfl⟩
      have hne : ¬ x.1 = k := fun e => hn.1 (e ▸ hmem)
      have := ih hn.2 hx
      simpa [atA, List.find?_cons, hne] using this
theorem atA_none {xs : List Ent} {k : NestedKey} (h : ∀ (j : Nat) (p : Value × Value), xs[j]? ≠ some (k, p)) : atA xs k = none := by
  have : (xs.find? fun x => decide (x.1 = k)) = none := by
    rw [List.find?_eq_none]
    intro x hx hk
    obtain ⟨j, hj⟩ := List.mem_iff_getElem?.mp hx
    have hk' : x.1 = k := of_decide_eq_true hk
    exact h j x.2 (by rw [hj, ← hk'])
  simp [atA, this]
theorem not_mem_keysA {xs : List Ent} {k : NestedKey} (h : ∀ (j : Nat) (p : Value × Value), xs[j]? ≠ some (k, p)) : k ∉ xs.map (·.1) := by
  intro hm
  obtain ⟨x, hx, e⟩ := List.mem_map.mp hm
  obtain ⟨j, hj⟩ := List.mem_iff_getElem?.mp hx
  exact h j x.2 (by rw [hj, ← e])
theorem idxA {xs : List Ent} (hn : (xs.map (·.1)).Nodup) {i j : Nat} {k : NestedKey} {p q : Value × Value} (hi : xs[i]? = some (k, p)) (hj : xs[j]? = some (k, q)) : i = j := by
  have hi' : (xs.map (·.1))[i]? = some k := by rw [List.getElem?_map, hi]; rfl
  have hj' : (xs.map (·.1))[j]? = some k := by rw [List.getElem?_map, hj]; rfl
  exact (List.getElem?_inj (List.getElem?_eq_some_iff.mp hi').1 hn).mp (hi'.trans hj'.symm)
theorem KeyIs.inj {h : Heap} {v : Value} {x y : NestedKey} (a : KeyIs h x v) (b : KeyIs h y v) : x = y := NestedIs.inj _ _ _ a.1 b.1
theorem entA_at {w : World} {es : Array DictEntry} {xs : List Ent} (he : es.toList = xs.map (entA w)) (j : Nat) : es[j]? = (xs[j]?).map (entA w) := by
  rw [← Array.getElem?_toList, he, List.getElem?_map]
theorem entA_size {w : World} {es : Array DictEntry} {xs : List Ent} (he : es.toList = xs.map (entA w)) : es.size = xs.length := by
  rw [← Array.length_toList, he, List.length_map]
theorem keyIs_str {h : Heap} {k : NestedKey} {x : Str} {t : Tok} (a : KeyIs h k (.str x t)) : k = .text x := by
  obtain ⟨a, _⟩ := a
  cases a
  rfl

section
variable {prog : Program} {w : World} {A : Around} {E : Value → Shared → Prop} {s : Shared}
theorem hashA {k : NestedKey} {v : Value} {Q : Int → Shared → Prop} (hu : A.units + 8 < cLine) (hk : KeyIs s.heap k v) (h : Q (k.hash w) { s with toks := s.toks + k.draws }) : wpAny (model prog w) A (pyHash v) Q E s :=
  pyHash_key _ _ _ _ _ hk.1 (by have := hk.2; omega) h
theorem eqA {x y : NestedKey} {a b : Value} {Q : Bool → Shared → Prop} (hu : A.units + 8 < cLine) (hx : KeyIs s.heap x a) (hy : KeyIs s.heap y b) (h : Q (decide (x = y)) s) : wpAny (model prog w) A (eqBool a b) Q E s :=
  eqAt_key x y A s _ _ hx.1 hy.1 (by have := hx.2; omega) _ _ _ _ (by rw [← NestedKey.decide_eq]; exact h)
theorem quietA {k : NestedKey} {v : Value} {Q : Bool → Shared → Prop} (hk : KeyIs s.heap k v) (h : Q true s) : wpAny (model prog w) A (eqIsQuiet 8 v) Q E s := quiet_key k _ 8 s hk.1 hk.2 A E Q h
theorem tellsA {k : NestedKey} {kv : Value} {stored : List Value} {Q : Bool → Shared → Prop} (hkey : KeyIs s.heap k kv) (hst : ∀ v ∈ stored, ∃ k', KeyIs s.heap k' v) (h : Q false s) : wpAny (model prog w) A (tableMayTell kv stored) Q E s := by
  unfold tableMayTell
  split
  · exact wpAny_pure h
  · refine wpAny_bind (quietA hkey ?_)
    simp only [Bool.not_true, Bool.false_eq_true, if_false]
    refine wpAny_bind ?_
    refine wpAny_forIn_list _ (fun rest r s' => s' = s ∧ r = (none, ()) ∧ ∀ v ∈ rest, ∃ k', KeyIs s.heap k' v) _ ?_ ?_ _ _ ⟨rfl, rfl, hst⟩
    · rintro x rest r s' ⟨rfl, rfl, hr⟩
      obtain ⟨k', hb⟩ := hr x List.mem_cons_self
      refine wpAny_bind (quietA hb ?_)
      simp only [Bool.not_true, Bool.false_eq_true, if_false]
      exact wpAny_pure ⟨rfl, rfl, fun v hv => hr v (List.mem_cons_of_mem _ hv)⟩
    · rintro r s' ⟨rfl, rfl, _⟩
      exact wpAny_pure h
theorem findA {d : Addr} {o : Obj} {es ep} {xs : List Ent} {k : NestedKey} {kv : Value} {Q : Option Nat → Shared → Prop} (hu : A.units + 8 < cLine) (hkey : KeyIs s.heap k kv)
    (ho : s.heap.get? d = some o) (hd : o.data = .dict es ep) (he : es.toList = xs.map (entA w)) (his : ∀ x ∈ xs, KeyIs s.heap x.1 x.2.1) (hn : (xs.map (·.1)).Nodup)
    (hnone : (∀ (j : Nat) (p : Value × Value), xs[j]? ≠ some (k, p)) → Q none s) (hsome : ∀ (j : Nat) (p : Value × Value), xs[j]? = some (k, p) → Q (some j) s) :
    wpAny (model prog w) A (dictFind d kv (k.hash w)) Q E s := by
  have hsz : es.size = xs.length := entA_size he
  have haskey : ∀ (j : Nat) (p : Value × Value), xs[j]? = some (k, p) → ((es[j]?.map (·.hash)) == some (k.hash w)) = true := by
    intro j p hj
    rw [entA_at he j, hj]
    simp [entA]
  have hmem : ∀ e ∈ es, ∃ x ∈ xs, e = entA w x := by
    intro e hin
    have : e ∈ xs.map (entA w) := he ▸ Array.mem_toList_iff.mpr hin
    obtain ⟨x, hx, rfl⟩ := List.mem_map.mp this
    exact ⟨x, hx, rfl⟩
  have hany : ¬ (es.any fun e => e.key == kv && e.hash != k.hash w) = true := by
    rw [← Array.any_toList, List.any_eq_true]
    rintro ⟨e, hin, hc⟩
    obtain ⟨x, hx, rfl⟩ := hmem e (Array.mem_toList_iff.mp hin)
    simp only [entA, Bool.and_eq_true, beq_iff_eq, bne_iff_ne, ne_eq] at hc
    obtain ⟨hxa, hne⟩ := hc
    have := his x hx
    rw [hxa] at this
    exact hne (by rw [this.inj hkey])
  have hst : ∀ v ∈ (placesWithHash es.size (fun i => es[i]?.map (·.hash)) (k.hash w)).filterMap (fun i => es[i]?.map (·.key)), ∃ k', KeyIs s.heap k' v := by
    intro v hv
    obtain ⟨i, _, hi⟩ := List.mem_filterMap.mp hv
    cases hei : es[i]? with
    | none => rw [hei] at hi; cases hi
    | some e =>
      rw [hei] at hi
      obtain rfl : e.key = v := by simpa using hi
      obtain ⟨x, hx, rfl⟩ := hmem e (Array.mem_of_getElem? hei)
      exact ⟨x.1, his x hx⟩
  -- the plain walk
  have plain : wpAny (model prog w) A (dictWalkPlain d kv (k.hash w) es (placesWithHash es.size (fun i => es[i]?.map (·.hash)) (k.hash w))) Q E s := by
    refine wpAny_bind ?_
    refine wpAny_forIn_list _
      (fun rest b s' => s' = s ∧ b = (none, ()) ∧ ∃ i, rest = (List.range' i (es.size - i)).filter (fun i => (es[i]?.map (·.hash)) == some (k.hash w)) ∧ i ≤ es.size ∧ ∀ j p, j < i → xs[j]? ≠ some (k, p)) _ ?_ ?_ _ _
      ⟨rfl, rfl, 0, by rw [placesWithHash, List.range_eq_range', Nat.sub_zero], Nat.zero_le _, fun _ _ h => absurd h (Nat.not_lt_zero _)⟩
    · rintro x rest b s' ⟨rfl, rfl, i, hr, hi, hno⟩
      obtain ⟨hix, hxn, hpx, hskip, hrest⟩ := filter_range'_cons _ _ _ _ _ hr.symm
      have hlt : x < es.size := by omega
      have hrest' : rest = (List.range' (x + 1) (es.size - (x + 1))).filter (fun i => (es[i]?.map (·.hash)) == some (k.hash w)) := by rw [hrest]; congr 2; omega
      obtain ⟨⟨k', b, v'⟩, hkv⟩ : ∃ y, xs[x]? = some y := ⟨xs[x]'(by rw [← hsz]; exact hlt), List.getElem?_eq_getElem _⟩
      have hib : KeyIs s'.heap k' b := his _ (List.mem_of_getElem? hkv)
      have hex : es[x]? = some ⟨k'.hash w, b, v'⟩ := by rw [entA_at he x, hkv]; rfl
      have hnext : ¬ k' = k → ∀ j p, j < x + 1 → xs[j]? ≠ some (k, p) := by
        intro hne j p hjx hj
        rcases Nat.lt_or_ge j i with h | h
        · exact hno j p h hj
        · rcases Nat.lt_or_ge j x with h2 | h2
          · have := hskip j h h2
            rw [haskey j p hj] at this
            exact absurd this (by decide)
          · have hjx' : j = x := by omega
            subst hjx'
            rw [hkv] at hj
            injection hj with hj
            injection hj with hj
            exact hne hj
      rw [hex]
      dsimp only
      by_cases hh : (k'.hash w == k.hash w) = true
      · rw [if_pos hh]
        refine wpAny_bind (wpAny_dictEpoch ho hd (wpAny_bind (eqA (x := k') (y := k) hu hib hkey (wpAny_bind (wpAny_dictEpoch ho hd ?_)))))
        show wpAny _ _ (if (ep != ep) = true then _ else _) _ E _
        rw [if_neg (by simp)]
        by_cases hkk : k' = k
        · rw [decide_eq_true hkk]
          subst hkk
          exact wpAny_bind (wpAny_rule (wpAny_pure (wpAny_pure (hsome x _ hkv))))
        · rw [decide_eq_false hkk]
          exact wpAny_bind (wpAny_rule (wpAny_pure ⟨rfl, rfl, x + 1, hrest', hlt, hnext hkk⟩))
      · rw [if_neg hh]
        refine wpAny_pure ⟨rfl, rfl, x + 1, hrest', hlt, hnext ?_⟩
        intro hkk
        rw [hkk] at hh; simp at hh
    · rintro b s' ⟨rfl, rfl, i, hr, hi, hno⟩
      have hall : ∀ j, i ≤ j → j < es.size → ((es[j]?.map (·.hash)) == some (k.hash w)) = false := by
        intro j h1 h2
        have := List.filter_eq_nil_iff.mp hr.symm j (List.mem_range'_1.mpr ⟨h1, by omega⟩)
        simpa using this
      refine wpAny_pure (hnone fun j p hj => ?_)
      rcases Nat.lt_or_ge j i with h | h
      · exact hno j p h hj
      · have hjl : j < es.size := by
          rw [hsz]
          rcases Nat.lt_or_ge j xs.length with h' | h'
          · exact h'
          · rw [List.getElem?_eq_none h'] at hj; exact nomatch hj
        have := hall j h hjl
        rw [haskey j p hj] at this
        exact absurd this (by decide)
  -- a text among texts
  have texts : ∀ (x : Str) (t : Tok), kv = .str x t → (es.all fun e => isExactStrKey e.key) = true → wpAny (model prog w) A (foundByValue d kv es x) Q E s := by
    intro x t ekv hall
    subst ekv
    have ek : k = .text x := keyIs_str hkey
    unfold foundByValue
    cases hf : es.findIdx? (fun e => e.key.isStr x) with
    | none =>
      refine wpAny_pure (hnone fun j p hj => ?_)
      have hj2 : es[j]? = some ⟨k.hash w, p.1, p.2⟩ := by rw [entA_at he j, hj]; rfl
      have hin := Array.mem_of_getElem? hj2
      have h1 := Array.findIdx?_eq_none_iff.mp hf _ hin
      have h2 : KeyIs s.heap k p.1 := his _ (List.mem_of_getElem? hj)
      rw [ek] at h2
      obtain ⟨h2, _⟩ := h2
      have h1 : p.1.isStr x = false := h1
      cases h3 : p.1 with
      | str y t' =>
        rw [h3] at h2 h1
        cases h2
        simp [Value.isStr] at h1
      | _ => rw [h3] at h2; cases h2
    | some i =>
      obtain ⟨hlt, hi, _⟩ := Array.findIdx?_eq_some_iff_getElem.mp hf
      obtain ⟨⟨k', b, v'⟩, hkv⟩ : ∃ y, xs[i]? = some y := ⟨xs[i]'(by rw [← hsz]; exact hlt), List.getElem?_eq_getElem _⟩
      have hib : KeyIs s.heap k' b := his _ (List.mem_of_getElem? hkv)
      have hex : es[i]? = some ⟨k'.hash w, b, v'⟩ := by rw [entA_at he i, hkv]; rfl
      have hex2 : es[i] = ⟨k'.hash w, b, v'⟩ := by
        rw [Array.getElem?_eq_getElem hlt] at hex
        exact Option.some.inj hex
      have hkk : k' = k := by
        have hi : b.isStr x = true := by rw [hex2] at hi; exact hi
        cases b with
        | str y t' =>
          have e : y = x := by simpa [Value.isStr] using hi
          rw [keyIs_str hib, ek, e]
        | _ => simp [Value.isStr] at hi
      subst hkk
      simp only [hex]
      refine wpAny_bind (wpAny_dictEpoch ho hd (wpAny_bind (eqA (x := k') (y := k') hu hib hkey (wpAny_bind (wpAny_dictEpoch ho hd ?_)))))
      show wpAny _ _ (if (ep != ep) = true then _ else _) _ E _
      rw [if_neg (by simp), decide_eq_true rfl]
      exact wpAny_bind (wpAny_rule (wpAny_pure (hsome i _ hkv)))
  have texts2 : ∀ (x : Str) (t : Tok), kv = .str x t → (es.all fun e => isExactStrKey e.key) = true → wpAny (model prog w) A (foundByValue d kv es x >>= pure) Q E s := fun x t e h => wpAny_bind (wpAny_mono (texts x t e h) (fun _ _ z => wpAny_pure z) fun _ _ z => z)
  have plain2 : wpAny (model prog w) A (dictWalkPlain d kv (k.hash w) es (placesWithHash es.size (fun i => es[i]?.map (·.hash)) (k.hash w)) >>= pure) Q E s := wpAny_bind (wpAny_mono plain (fun _ _ z => wpAny_pure z) fun _ _ z => z)
  unfold dictFind
  try with_reducible refine wpAny_holding ?_
  refine wpAny_bind (wpAny_dictEntries ho hd ?_)
  dsimp only
  have hone0 := Classical.em ((((placesWithHash es.size (fun i => es[i]?.map (·.hash)) (k.hash w)).filterMap (fun i => es[i]?.map (·.key))) == [kv]) = true)
  cases kv <;> first
    | (exfalso; obtain ⟨z, _⟩ := hkey; cases z; done)
    | (dsimp only
       refine wpAny_ite_split (fun h => by first | exact texts _ _ rfl h | exact texts2 _ _ rfl h) (fun _ => ?_)
       refine wpAny_ite_split (fun h => by first | exact plain | exact plain2) (fun _ => ?_))
    | (dsimp only
       refine wpAny_ite_split (fun h => by first | exact plain | exact plain2) (fun _ => ?_)
       rw [if_neg hany])
    | (dsimp only
       refine wpAny_ite_split (fun h => by first | exact plain | exact plain2) (fun _ => ?_))
  all_goals rcases hone0 with hone | hone
  all_goals first | rw [if_pos hone] | rw [if_neg hone]
  all_goals first | refine wpAny_bind (wpAny_pure ?_) | refine wpAny_bind (tellsA hkey hst ?_)
  all_goals (
    rw [if_neg (by simp)]
    refine wpAny_bind ?_
    refine wpAny_forIn_list _
      (fun rest b s' => s' = s ∧ ∃ i hit, b = (none, hit) ∧ rest = (List.range' i (es.size - i)).filter (fun i => (es[i]?.map (·.hash)) == some (k.hash w)) ∧ i ≤ es.size ∧
        ((hit = none ∧ ∀ j p, j < i → xs[j]? ≠ some (k, p)) ∨ ∃ j p, hit = some j ∧ j < i ∧ xs[j]? = some (k, p))) _ ?_ ?_ _ _
      ⟨rfl, 0, none, rfl, by rw [placesWithHash, List.range_eq_range', Nat.sub_zero], Nat.zero_le _, .inl ⟨rfl, fun _ _ h => absurd h (Nat.not_lt_zero _)⟩⟩
    · rintro x rest b s' ⟨rfl, i, hit, rfl, hr, hi, hH⟩
      obtain ⟨hix, hxn, hpx, hskip, hrest⟩ := filter_range'_cons _ _ _ _ _ hr.symm
      have hlt : x < es.size := by omega
      have hrest' : rest = (List.range' (x + 1) (es.size - (x + 1))).filter (fun i => (es[i]?.map (·.hash)) == some (k.hash w)) := by rw [hrest]; congr 2; omega
      obtain ⟨⟨k', b, v'⟩, hkv⟩ : ∃ y, xs[x]? = some y := ⟨xs[x]'(by rw [← hsz]; exact hlt), List.getElem?_eq_getElem _⟩
      have hib : KeyIs s'.heap k' b := his _ (List.mem_of_getElem? hkv)
      have hex : es[x]? = some ⟨k'.hash w, b, v'⟩ := by rw [entA_at he x, hkv]; rfl
      have hHx : (hit = none ∧ ∀ j p, j < x → xs[j]? ≠ some (k, p)) ∨ ∃ j p, hit = some j ∧ j < x ∧ xs[j]? = some (k, p) := by
        rcases hH with ⟨h0, hno⟩ | ⟨j, p, h1, hji, hj⟩
        · refine .inl ⟨h0, fun j p hjx hj => ?_⟩
          rcases Nat.lt_or_ge j i with h | h
          · exact hno j p h hj
          · have := hskip j h hjx
            rw [haskey j p hj] at this
            exact absurd this (by decide)
        · exact .inr ⟨j, p, h1, by omega, hj⟩
      have hstay : ¬ k' = k → ((hit = none ∧ ∀ j p, j < x + 1 → xs[j]? ≠ some (k, p)) ∨ ∃ j p, hit = some j ∧ j < x + 1 ∧ xs[j]? = some (k, p)) := by
        intro hne
        rcases hHx with ⟨h0, hno⟩ | ⟨j, p, h1, hjx, hj⟩
        · refine .inl ⟨h0, fun j p hjx hj => ?_⟩
          rcases Nat.lt_or_ge j x with h | h
          · exact hno j p h hj
          · have hjx' : j = x := by omega
            subst hjx'
            rw [hkv] at hj
            injection hj with hj
            injection hj with hj
            exact hne hj
        · exact .inr ⟨j, p, h1, by omega, hj⟩
      rw [hex]
      dsimp only
      by_cases hh : (k'.hash w == k.hash w) = true
      · rw [if_pos hh]
        refine wpAny_bind (wpAny_dictEpoch ho hd (wpAny_bind (eqA (x := k') (y := k) hu hib hkey (wpAny_bind (wpAny_dictEpoch ho hd ?_)))))
        show wpAny _ _ (if (ep != ep) = true then _ else _) _ E _
        rw [if_neg (by simp)]
        by_cases hkk : k' = k
        · rw [decide_eq_true hkk]
          subst hkk
          rcases hHx with ⟨rfl, _⟩ | ⟨j, p, _, hjx, hj⟩
          · first | rw [if_pos rfl] | skip
            simp only [Option.isSome_none, Bool.false_eq_true, if_false]
            first | refine wpAny_bind (wpAny_pure ?_) | skip
            refine wpAny_bind (wpAny_rule ?_)
            split
            · exact wpAny_pure (wpAny_pure (hsome x _ hkv))
            · exact wpAny_pure ⟨rfl, x + 1, some x, rfl, hrest', hlt, .inr ⟨x, _, rfl, Nat.lt_succ_self x, hkv⟩⟩
          · exact absurd (idxA hn hj hkv) (by omega)
        · rw [decide_eq_false hkk]
          simp only [Bool.false_eq_true, if_false]
          refine wpAny_bind (wpAny_rule ?_)
          first | rw [if_neg (by simp)] | skip
          first
            | exact wpAny_pure ⟨rfl, x + 1, hit, rfl, hrest', hlt, hstay hkk⟩
            | exact wpAny_bind (wpAny_pure (wpAny_pure ⟨rfl, x + 1, hit, rfl, hrest', hlt, hstay hkk⟩))
      · rw [if_neg hh]
        refine wpAny_pure ⟨rfl, x + 1, hit, rfl, hrest', hlt, hstay ?_⟩
        intro hkk
        rw [hkk] at hh; simp at hh
    · rintro b s' ⟨rfl, i, hit, rfl, hr, hi, hH⟩
      have hall : ∀ j, i ≤ j → j < es.size → ((es[j]?.map (·.hash)) == some (k.hash w)) = false := by
        intro j h1 h2
        have := List.filter_eq_nil_iff.mp hr.symm j (List.mem_range'_1.mpr ⟨h1, by omega⟩)
        simpa using this
      rcases hH with ⟨rfl, hno⟩ | ⟨j, p, rfl, _, hj⟩
      · refine wpAny_pure (hnone fun j p hj => ?_)
        rcases Nat.lt_or_ge j i with h | h
        · exact hno j p h hj
        · have hjl : j < es.size := by
            rw [hsz]
            rcases Nat.lt_or_ge j xs.length with h' | h'
            · exact h'
            · rw [List.getElem?_eq_none h'] at hj; exact nomatch hj
          have := hall j h hjl
          rw [haskey j p hj] at this
          exact absurd this (by decide)
      · exact wpAny_pure (hsome j p hj))
end

/-- at d stands a dict with the entries xs -/
def DictA (w : World) (h : Heap) (d : Addr) (xs : List Ent) : Prop := ∃ o es ep, h.get? d = some o ∧ o.ExactDict ∧ o.data = .dict es ep ∧ es.toList = xs.map (entA w) ∧ (∀ x ∈ xs, KeyIs h x.1 x.2.1) ∧ (xs.map (·.1)).Nodup
theorem DictA.typeIs {w : World} {s : Shared} {d : Addr} {xs : List Ent} (x : DictA w s.heap d xs) : s.TypeIs (.ref d) "dict" := let ⟨_, _, _, ho, hc, _⟩ := x; ⟨_, ho, hc.1⟩
theorem KeyIs.keeps {h h' : Heap} {k : NestedKey} {v : Value} {d : Addr} {o : Obj} {es ep} (x : KeyIs h k v) (ho : h.get? d = some o) (hd : o.data = .dict es ep) (hs : Heap.SameBut d h h') : KeyIs h' k v :=
  ⟨NestedIs.at (fun b ob vs n hb hc => by
    refine (hs.2 b fun e => ?_).trans hb
    subst e
    rw [ho] at hb
    cases hb
    rw [hd] at hc
    cases hc) k _ x.1, x.2⟩
theorem map_putA_none (xs : List Ent) (k : NestedKey) (v : Value) (hn : k ∉ xs.map (·.1)) : xs.map (putA k v) = xs := by
  induction xs with
  | nil => rfl
  | cons x xs ih =>
    simp only [List.map_cons, List.mem_cons, not_or] at hn ⊢
    rw [putA, if_neg (fun e => hn.1 e.symm), ih hn.2]
theorem keys_putA (xs : List Ent) (k : NestedKey) (v : Value) : (xs.map (putA k v)).map (·.1) = xs.map (·.1) := by
  induction xs with
  | nil => rfl
  | cons x xs ih =>
    simp only [List.map_cons, ih]
    by_cases hk : x.1 = k <;> simp [putA, hk]
theorem modify_putA {β : Type} (f : Ent → β) (g : β → β) (k : NestedKey) (v : Value) (hg : ∀ a v₀, g (f (k, a, v₀)) = f (k, a, v)) :
    ∀ {xs : List Ent} {j : Nat} {p : Value × Value}, (xs.map (·.1)).Nodup → xs[j]? = some (k, p) → (xs.map f).modify j g = (xs.map (putA k v)).map f := by
  intro xs
  induction xs with
  | nil => intro j p _ hj; simp at hj
  | cons x rest ih =>
    intro j p hn hj
    rw [List.map_cons, List.nodup_cons] at hn
    cases j with
    | zero =>
      simp only [List.getElem?_cons_zero, Option.some.injEq] at hj
      subst hj
      rw [List.map_cons, List.map_cons, map_putA_none rest k v hn.1, putA, if_pos rfl, List.map_cons]
      show g (f (k, p)) :: rest.map f = f (k, p.1, v) :: rest.map f
      rw [show (k, p) = (k, p.1, p.2) from rfl, hg]
    | succ j =>
      simp only [List.getElem?_cons_succ] at hj
      have hmem : k ∈ rest.map (·.1) := List.mem_map.mpr ⟨(k, p), List.mem_of_getElem? hj, rfl⟩
      have hne : ¬ x.1 = k := fun e => hn.1 (e ▸ hmem)
      rw [List.map_cons, List.map_cons, putA, if_neg hne, List.map_cons]
      show f x :: (rest.map f).modify j g = f x :: (rest.map (putA k v)).map f
      rw [ih hn.2 hj]
theorem storeA_new {xs : List Ent} {k : NestedKey} (h : atA xs k = none) (a v : Value) : storeA xs k a v = xs ++ [(k, a, v)] := by simp [storeA, h]
theorem storeA_old {xs : List Ent} {k : NestedKey} {p : Value × Value} (h : atA xs k = some p) (a v : Value) : storeA xs k a v = xs.map (putA k v) := by simp [storeA, h]

section
variable {prog : Program} {w : World} {A : Around} {E : Value → Shared → Prop} {s : Shared} {d : Addr} {k : NestedKey} {kv : Value} {xs : List Ent}
theorem getA {Q : Option Value → Shared → Prop} (hu : A.units + 8 < cLine) (hkey : KeyIs s.heap k kv) (hm : DictA w s.heap d xs) (h : Q ((atA xs k).map (·.2)) { s with toks := s.toks + k.draws }) : wpAny (model prog w) A (dictGet d kv) Q E s := by
  obtain ⟨o, es, ep, ho, _, hd, he, his, hn⟩ := hm
  unfold dictGet
  try with_reducible refine wpAny_holding ?_
  refine wpAny_bind (hashA hu hkey (wpAny_bind (findA (s := { s with toks := s.toks + k.draws }) hu hkey ho hd he his hn ?_ ?_)))
  · intro hno
    rw [atA_none hno] at h
    exact wpAny_pure h
  · intro j p hj
    rw [atA_of_get hn hj] at h
    refine wpAny_bind (wpAny_dictEntries (s := { s with toks := s.toks + k.draws }) ho hd ?_)
    rw [entA_at he j, hj]
    exact wpAny_pure h
theorem putNewA {h' : Heap} {o : Obj} {es : Array DictEntry} {ep : Nat} {v : Value} (ho : s.heap.get? d = some o) (hc : o.ExactDict) (hd : o.data = .dict es ep) (he : es.toList = xs.map (entA w)) (his : ∀ x ∈ xs, KeyIs s.heap x.1 x.2.1) (hn : (xs.map (·.1)).Nodup)
    (hkey : KeyIs s.heap k kv) (hno : ∀ (j : Nat) (p : Value × Value), xs[j]? ≠ some (k, p)) (e : h' = s.heap.update d (Obj.mapDictKeys (·.push ⟨k.hash w, kv, v⟩))) : DictA w h' d (storeA xs k kv v) ∧ Heap.SameBut d s.heap h' := by
  subst e
  have hnot : k ∉ xs.map (·.1) := not_mem_keysA hno
  refine ⟨⟨_, _, ep + 1, Heap.get?_update_self _ ho (Obj.isFreed_of_dict (Obj.data_mapDictKeys hd _)), hc.mapDictKeys _, Obj.data_mapDictKeys hd _, ?_, ?_, ?_⟩, Heap.SameBut.update ..⟩
  · rw [storeA_new (atA_none hno)]
    simp [he, entA]
  · rw [storeA_new (atA_none hno)]
    intro x hx
    rcases List.mem_append.mp hx with hx | hx
    · exact (his x hx).keeps ho hd (Heap.SameBut.update ..)
    · simp only [List.mem_singleton] at hx
      subst hx
      exact hkey.keeps ho hd (Heap.SameBut.update ..)
  · rw [storeA_new (atA_none hno), List.map_append, List.nodup_append]
    refine ⟨hn, by simp, ?_⟩
    intro x hx y hy
    simp only [List.map_cons, List.map_nil, List.mem_singleton] at hy
    subst hy
    exact fun e => hnot (e ▸ hx)
theorem setA {v : Value} {Q : Unit → Shared → Prop} (hu : A.units + 8 < cLine) (hkey : KeyIs s.heap k kv) (hm : DictA w s.heap d xs)
    (hQ : ∀ h', DictA w h' d (storeA xs k kv v) → Heap.SameBut d s.heap h' → Q () { s with heap := h', toks := s.toks + k.draws }) (hsz : xs.length ≤ sizeLine) : wpAny (model prog w) A (dictSet d kv v) Q E s := by
  obtain ⟨o, es, ep, ho, hc, hd, he, his, hn⟩ := hm
  unfold dictSet
  try with_reducible refine wpAny_holding ?_
  refine wpAny_bind (hashA hu hkey ?_)
  unfold dictSetHashed
  try with_reducible refine wpAny_holding ?_
  refine wpAny_bind (findA (s := { s with toks := s.toks + k.draws }) hu hkey ho hd he his hn ?_ ?_)
  · intro hno
    obtain ⟨h1, h2⟩ := putNewA (s := s) (v := v) ho hc hd he his hn hkey hno rfl
    exact wpAny_bind (wpAny_rule (wpAny_updateDictKeys (hz := by have e := entA_size he; omega) (s := { s with toks := s.toks + k.draws }) ho hd (hQ _ h1 h2)))
  · intro j p hj
    refine wpAny_bind (wpAny_rule (wpAny_bind (wpAny_updateDict (s := { s with toks := s.toks + k.draws }) ho hd (wpAny_point (hQ _ ⟨_, _, ep, Heap.get?_update_self _ ho (Obj.isFreed_of_dict (Obj.data_mapDict hd _)),
      hc.mapDict _, Obj.data_mapDict hd _, ?_, ?_, ?_⟩ (Heap.SameBut.update ..))))))
    · rw [storeA_old (atA_of_get hn hj)]
      have := modify_putA (entA w) (fun e : DictEntry => { e with val := v }) k v (fun _ _ => rfl) hn hj
      rw [← he] at this
      obtain ⟨l⟩ := es
      simpa using this
    · rw [storeA_old (atA_of_get hn hj)]
      intro x hx
      obtain ⟨y, hy, rfl⟩ := List.mem_map.mp hx
      unfold putA
      split <;> exact (his y hy).keeps ho hd (Heap.SameBut.update ..)
    · rw [storeA_old (atA_of_get hn hj), keys_putA]
      exact hn
theorem sdA {dflt : Value} {Q : Value → Shared → Prop} (hu : A.units + 8 < cLine) (hkey : KeyIs s.heap k kv) (hm : DictA w s.heap d xs) (h1 : ∀ p, atA xs k = some p → Q p.2 { s with toks := s.toks + k.draws })
    (h2 : atA xs k = none → ∀ h', DictA w h' d (storeA xs k kv dflt) → Heap.SameBut d s.heap h' → Q dflt { s with heap := h', toks := s.toks + k.draws }) (hsz : xs.length ≤ sizeLine) : wpAny (model prog w) A (dictSetDefault d kv dflt) Q E s := by
  obtain ⟨o, es, ep, ho, hc, hd, he, his, hn⟩ := hm
  unfold dictSetDefault
  try with_reducible refine wpAny_holding ?_
  refine wpAny_bind (hashA hu hkey ?_)
  refine wpAny_bind (findA (s := { s with toks := s.toks + k.draws }) hu hkey ho hd he his hn ?_ ?_)
  · intro hno
    obtain ⟨a1, a2⟩ := putNewA (s := s) (v := dflt) ho hc hd he his hn hkey hno rfl
    exact wpAny_bind (wpAny_rule (wpAny_bind (wpAny_updateDictKeys (hz := by have e := entA_size he; omega) (s := { s with toks := s.toks + k.draws }) ho hd (wpAny_pure (h2 (atA_none hno) _ a1 a2)))))
  · intro j p hj
    refine wpAny_bind (wpAny_dictEntries (s := { s with toks := s.toks + k.draws }) ho hd ?_)
    rw [entA_at he j, hj]
    exact wpAny_bind (wpAny_rule (wpAny_pure (h1 p (atA_of_get hn hj))))

theorem meetsGetA (hd : (d == sysModules) = false) (dflt : Value) :
    MeetsIn prog w (Builtin.«dict.get» ⟨[.ref d, kv, dflt], []⟩) (fun A R s => A.in1.units + 8 < cLine ∧ ∃ k xs, KeyIs s.heap k kv ∧ DictA w s.heap d xs ∧ R (.ok (.ret (((atA xs k).map (·.2)).getD dflt))) { s with toks := s.toks + k.draws }) :=
  .of_wp fun A R s ⟨hu, k, xs, hkey, hm, h⟩ => by
    show wpAny _ _ (dictGet d kv >>= _) _ _ s
    refine wpAny_bind (getA hu hkey hm ?_)
    cases hf : (atA xs k).map (·.2) with
    | some v =>
      rw [hf] at h
      exact wpAny_pure ⟨v, rfl, h⟩
    | none =>
      rw [hf] at h
      show wpAny _ _ (Builtin.Dict.missed d kv >>= _) _ _ _
      exact wpAny_bind (wpAny_missed_other hd (wpAny_pure ⟨dflt, rfl, h⟩))
theorem callGetA {dflt : Value} {Q : Value → Shared → Prop} (hu : A.in1.units + 8 < cLine) (hkey : KeyIs s.heap k kv) (hd : (d == sysModules) = false) (hm : DictA w s.heap d xs)
    (h : Q (((atA xs k).map (·.2)).getD dflt) { s with toks := s.toks + k.draws }) : wpAny (model prog w) A (call (.builtin "dict.get") [.ref d, kv, dflt]) Q E s :=
  call_meetsIn F.slot_dict_get hm.typeIs F.entry_dict_get (F.args_dict_get_3 _ _ _) (meetsGetA hd dflt) ⟨hu, k, xs, hkey, hm, h⟩
theorem meetsSdA (hd : (d == sysModules) = false) (dflt : Value) :
    MeetsIn prog w (Builtin.«dict.setdefault» ⟨[.ref d, kv, dflt], []⟩) (fun A R s => A.in1.units + 8 < cLine ∧ ∃ k xs, KeyIs s.heap k kv ∧ DictA w s.heap d xs ∧ xs.length ≤ sizeLine ∧
      (∀ p, atA xs k = some p → R (.ok (.ret p.2)) { s with toks := s.toks + k.draws }) ∧
      (atA xs k = none → ∀ h', DictA w h' d (storeA xs k kv dflt) → Heap.SameBut d s.heap h' → R (.ok (.ret dflt)) { s with heap := h', toks := s.toks + k.draws })) :=
  .of_wp fun A R s ⟨hu, k, xs, hkey, hm, hz, h1, h2⟩ => by
    unfold Builtin.«dict.setdefault»
    refine wpAny_bind ?_
    unfold Builtin.Dict.keyAndDefault
    refine wpAny_bind (wpAny_notOrdered_dict hm.typeIs ?_)
    show wpAny _ _ (pure (d, kv, some dflt)) _ _ s
    refine wpAny_pure ?_
    show wpAny _ _ (if (d == sysModules) = true then _ else (dictSetDefault d kv dflt >>= _)) _ _ s
    rw [if_neg (by rw [hd]; exact Bool.false_ne_true)]
    exact wpAny_bind (sdA hu hkey hm (fun p hp => wpAny_pure ⟨p.2, rfl, h1 p hp⟩) (fun hn h' hm' hs' => wpAny_pure ⟨dflt, rfl, h2 hn h' hm' hs'⟩) hz)
theorem callSdA {dflt : Value} {Q : Value → Shared → Prop} (hu : A.in1.units + 8 < cLine) (hkey : KeyIs s.heap k kv) (hd : (d == sysModules) = false) (hm : DictA w s.heap d xs) (h1 : ∀ p, atA xs k = some p → Q p.2 { s with toks := s.toks + k.draws })
    (h2 : atA xs k = none → ∀ h', DictA w h' d (storeA xs k kv dflt) → Heap.SameBut d s.heap h' → Q dflt { s with heap := h', toks := s.toks + k.draws }) (hsz : xs.length ≤ sizeLine) : wpAny (model prog w) A (call (.builtin "dict.setdefault") [.ref d, kv, dflt]) Q E s :=
  call_meetsIn F.slot_dict_setdefault hm.typeIs F.entry_dict_setdefault (F.args_dict_setdefault_3 _ _ _) (meetsSdA hd dflt) ⟨hu, k, xs, hkey, hm, hsz, h1, h2⟩
theorem itemA {p : Value × Value} {Q : Value → Shared → Prop} (hu : A.in1.units + 8 < cLine) (hkey : KeyIs s.heap k kv) (hm : DictA w s.heap d xs) (hp : atA xs k = some p) (h : Q p.2 { s with toks := s.toks + k.draws }) : wpAny (model prog w) A (getItem (.ref d) kv) Q E s := by
  unfold getItem
  try with_reducible refine wpAny_holding ?_
  refine wpAny_bind (wpAny_sequenceKey hm.typeIs (by decide) ?_)
  refine wpAny_bind (wpAny_callSpecial?_slot (name := Str.ofString "__getitem__") hm.typeIs slot_dict_getitem (wpAny_call_entry slot_dict_getitem hm.typeIs entry_dict_getitem ?_ (args_dict_getitem _ _)))
  show wpAny _ _ (dictGet d kv >>= _) _ _ s
  refine wpAny_bind (getA hu hkey hm ?_)
  rw [hp]
  exact wpAny_pure ⟨p.2, rfl, wpAny_pure h⟩
theorem setItemA {v : Value} {Q : Unit → Shared → Prop} (hu : A.in1.units + 8 < cLine) (hkey : KeyIs s.heap k kv) (hm : DictA w s.heap d xs)
    (hQ : ∀ h', DictA w h' d (storeA xs k kv v) → Heap.SameBut d s.heap h' → Q () { s with heap := h', toks := s.toks + k.draws }) (hsz : xs.length ≤ sizeLine) : wpAny (model prog w) A (setItem (.ref d) kv v) Q E s := by
  unfold setItem
  try with_reducible refine wpAny_holding ?_
  refine wpAny_bind (wpAny_sequenceKey hm.typeIs (by decide) ?_)
  refine wpAny_bind (wpAny_callSpecial?_slot (name := Str.ofString "__setitem__") hm.typeIs slot_dict_setitem (wpAny_call_entry slot_dict_setitem hm.typeIs entry_dict_setitem ?_ (args_dict_setitem _ _ _)))
  show wpAny _ _ (Builtin.Dict.notOrdered "__setitem__" ⟨[.ref d, kv, v], []⟩ >>= _) _ _ s
  refine wpAny_bind (wpAny_notOrdered_dict hm.typeIs ?_)
  show wpAny _ _ (dictSet d kv v >>= _) _ _ s
  exact wpAny_bind (setA hu hkey hm (fun h' hm' hs' => wpAny_pure ⟨.none, rfl, wpAny_pure (hQ h' hm' hs')⟩) hsz)
theorem containsA {Q : Bool → Shared → Prop} (hu : A.in1.units + 8 < cLine) (hkey : KeyIs s.heap k kv) (hd : (d == sysModules) = false) (hm : DictA w s.heap d xs) (h : Q (atA xs k).isSome { s with toks := s.toks + k.draws }) : wpAny (model prog w) A (contains (.ref d) kv) Q E s := by
  refine wpAny_contains_slot hm.typeIs F.slot_dict_contains ?_
  refine call_meetsIn F.slot_dict_contains hm.typeIs F.entry_dict_contains (F.args_dict_contains_2 _ _) (S := fun A' R s' => A' = A ∧ s' = s ∧ R (.ok (.ret (.bool (atA xs k).isSome))) { s with toks := s.toks + k.draws }) (fun A' R s' hS => ?_) ⟨rfl, rfl, wpAny_truthy_bool h⟩
  obtain ⟨rfl, rfl, hq⟩ := hS
  show wpAny _ _ (dictGet d kv >>= _) _ _ _
  refine wpAny_bind (getA hu hkey hm ?_)
  cases hf : atA xs k with
  | some p =>
    rw [hf] at hq
    show wpAny _ _ (ret (.bool true)) _ _ _
    exact wpAny_pure hq
  | none =>
    rw [hf] at hq
    show wpAny _ _ (Builtin.Dict.pendingKey? d kv >>= _) _ _ _
    exact wpAny_bind (wpAny_pendingKey_other hd (wpAny_pure hq))
end
end MM

/-! MMk: dicts with keys of any kind as things of the memory: {}, d[k], d[k] = v, d.get(k, x), d.setdefault(k, x), k in d. -/
namespace MM
open PySem PySem.Spec PyProof.Rows L2

mutual
/-- an abstract value is a key -/
inductive KeyV (K : PySem.W.Frag) (H : Hp) : NestedKey → V → Prop
  | none : KeyV K H .none .non
  | num (i : Int) : KeyV K H (.num i) (.int i)
  | text (x : Str) : KeyV K H (.text x) (.str x)
  | tup {a : Addr} {vs : List V} {ks : List NestedKey} : SqT K H a vs → KeyVs K H ks vs → KeyV K H (.tup ks) (.ref a)
inductive KeyVs (K : PySem.W.Frag) (H : Hp) : List NestedKey → List V → Prop
  | nil : KeyVs K H [] []
  | cons {k : NestedKey} {v : V} {ks : List NestedKey} {vs : List V} : KeyV K H k v → KeyVs K H ks vs → KeyVs K H (k :: ks) (v :: vs)
end
section
variable {X : Cx} {pins : List (Addr × Obj)} {σ : L2.St} {H : Hp} {s : Shared}
mutual
theorem KeyV.raw (I : Inv X pins σ H s) : ∀ (k : NestedKey) (v : V) (u : Value), KeyV X.K H k v → RelV v u → NestedIs s.heap k u
  | .none, v, u, h, r => by
    cases h
    obtain rfl : u = Value.none := r
    exact .none
  | .num i, v, u, h, r => by
    cases h
    obtain ⟨t, rfl⟩ := (show ∃ t, u = Value.int i t from r)
    exact .int i t
  | .text x, v, u, h, r => by
    cases h
    obtain ⟨t, rfl⟩ := (show ∃ t, u = Value.str x t from r)
    exact .text x t
  | .tup ks, v, u, h, r => by
    cases h with
    | tup hs hk =>
      obtain ⟨its, rl, pl, _⟩ := I.tuple hs
      obtain ⟨o, h1, h2, n, h3⟩ := pl
      cases (show u = Value.ref _ from r)
      exact .tup h1 h2 h3 (by simpa using KeyVs.raw I ks _ its hk rl)
theorem KeyVs.raw (I : Inv X pins σ H s) : ∀ (ks : List NestedKey) (vs : List V) (us : List Value), KeyVs X.K H ks vs → Vals vs us → NestedAll s.heap ks us
  | [], vs, us, h, r => by
    cases h
    cases r
    exact .nil
  | k :: ks, vs, us, h, r => by
    cases h with
    | cons h1 h2 =>
      cases r with
      | cons r1 r2 => exact .cons (KeyV.raw I k _ _ h1 r1) (KeyVs.raw I ks _ _ h2 r2)
end
end
mutual
theorem keyV_of {K : PySem.W.Frag} {Fz H : Hp} {ι : Nat → Addr} (hz : ∀ a o, Fz a = some o → H a = some o) : ∀ (d : D) (k : NestedKey) (v : V), keyOf d = some k → RepV K Fz ι d v → KeyV K H k v
  | .non, k, v, e, r => by
    cases e
    obtain rfl : v = V.non := r
    exact .none
  | .int i, k, v, e, r => by
    cases e
    obtain rfl : v = V.int i := r
    exact .num i
  | .str x, k, v, e, r => by
    cases e
    obtain rfl : v = V.str x := r
    exact .text x
  | .tup l, k, v, e, r => by
    obtain ⟨a, vs, rfl, hs, rl⟩ := r
    rw [keyOf] at e
    cases h : keysOf l with
    | none => rw [h] at e; cases e
    | some ks =>
      rw [h] at e
      cases e
      exact .tup (SqT.up hz hs) (keysV_of hz l ks vs h rl)
  | .bl _, k, v, e, r => by simp [keyOf] at e
  | .lst _, k, v, e, r => by simp [keyOf] at e
  | .scr _, k, v, e, r => by simp [keyOf] at e
  | .ptr _, k, v, e, r => by simp [keyOf] at e
theorem keysV_of {K : PySem.W.Frag} {Fz H : Hp} {ι : Nat → Addr} (hz : ∀ a o, Fz a = some o → H a = some o) : ∀ (l : List D) (ks : List NestedKey) (vs : List V), keysOf l = some ks → RepL K Fz ι l vs → KeyVs K H ks vs
  | [], ks, vs, e, r => by
    cases e
    obtain rfl : vs = [] := r
    exact .nil
  | d :: l, ks, vs, e, r => by
    obtain ⟨v, r', rfl, q1, q2⟩ := r
    rw [keysOf] at e
    cases h : keyOf d with
    | none => rw [h] at e; cases e
    | some k =>
      rw [h] at e
      cases h2 : keysOf l with
      | none => rw [h2] at e; cases e
      | some ks' =>
        rw [h2] at e
        cases e
        exact .cons (keyV_of hz d k v h q1) (keysV_of hz l ks' r' h2 q2)
end
mutual
theorem keyOf_inj : ∀ (a b : D) (k : NestedKey), keyOf a = some k → keyOf b = some k → a = b
  | .non, b, k, e, f => by
    cases e
    cases b <;> first | rfl | (simp [keyOf] at f; done)
  | .int i, b, k, e, f => by
    cases e
    cases b <;> simp [keyOf] at f
    rw [f]
  | .str x, b, k, e, f => by
    cases e
    cases b <;> simp [keyOf] at f
    rw [f]
  | .tup l, b, k, e, f => by
    rw [keyOf] at e
    cases h : keysOf l with
    | none => rw [h] at e; cases e
    | some ks =>
      rw [h] at e
      cases e
      cases b with
      | tup m =>
        rw [keyOf] at f
        cases h2 : keysOf m with
        | none => rw [h2] at f; cases f
        | some ks2 =>
          rw [h2] at f
          have f : NestedKey.tup ks2 = NestedKey.tup ks := Option.some.inj f
          injection f with f
          rw [keysOf_inj l m ks h (by rw [h2, f])]
      | _ => simp [keyOf] at f
  | .bl _, b, k, e, f => by simp [keyOf] at e
  | .lst _, b, k, e, f => by simp [keyOf] at e
  | .scr _, b, k, e, f => by simp [keyOf] at e
  | .ptr _, b, k, e, f => by simp [keyOf] at e
theorem keysOf_inj : ∀ (a b : List D) (k : List NestedKey), keysOf a = some k → keysOf b = some k → a = b
  | [], b, k, e, f => by
    cases e
    cases b with
    | nil => rfl
    | cons d l =>
      rw [keysOf] at f
      cases h : keyOf d with
      | none => rw [h] at f; cases f
      | some x =>
        rw [h] at f
        cases h2 : keysOf l with
        | none => rw [h2] at f; cases f
        | some y => rw [h2] at f; cases f
  | a :: l, b, k, e, f => by
    rw [keysOf] at e
    cases h : keyOf a with
    | none => rw [h] at e; cases e
    | some x =>
      rw [h] at e
      cases h2 : keysOf l with
      | none => rw [h2] at e; cases e
      | some y =>
        rw [h2] at e
        cases e
        cases b with
        | nil => cases f
        | cons c m =>
          rw [keysOf] at f
          cases g : keyOf c with
          | none => rw [g] at f; cases f
          | some x' =>
            rw [g] at f
            cases g2 : keysOf m with
            | none => rw [g2] at f; cases f
            | some y' =>
              rw [g2] at f
              have f : x' :: y' = x :: y := Option.some.inj f
              injection f with f1 f2
              rw [keyOf_inj a c x h (by rw [g, f1]), keysOf_inj l m y h2 (by rw [g2, f2])]
end

/-! ### the dict at an address -/
abbrev EnV := NestedKey × V × V
structure DctAt (K : PySem.W.Frag) (wd : World) (H : Hp) (a : Addr) (es : List EnV) : Prop where
  ob : H a = some (DctO wd a es) ∨ ∃ o, H a = some (.frz o (DctO wd a es))
  ky : ∀ e ∈ es, KeyV K H e.1 e.2.1 ∧ e.1.depth ≤ 8
  nd : (es.map (·.1)).Nodup
def valE (es : List EnV) (k : NestedKey) : Option V := (es.find? fun e => decide (e.1 = k)).map (·.2.2)
def putE (es : List EnV) (k : NestedKey) (y v : V) : List EnV := if (valE es k).isSome then es.map (fun e => if e.1 = k then (e.1, e.2.1, v) else e) else es ++ [(k, y, v)]
abbrev EntR : EnV → Ent → Prop := fun e x => e.1 = x.1 ∧ RelV e.2.1 x.2.1 ∧ RelV e.2.2 x.2.2
theorem ent_val {es : List EnV} {xs : List Ent} (r : Paired EntR es xs) (k : NestedKey) : RelO (valE es k) ((atA xs k).map (·.2)) := by
  induction r with
  | nil => exact True.intro
  | @cons p q ps qs h t ih =>
    obtain ⟨h1, _, h2⟩ := h
    by_cases e : p.1 = k
    · have e' : q.1 = k := h1.symm.trans e
      have a1 : valE (p :: ps) k = some p.2.2 := by simp [valE, List.find?_cons, e]
      have b : atA (q :: qs) k = some q.2 := by simp [atA, List.find?_cons, e']
      rw [a1, b]
      exact h2
    · have e' : ¬ q.1 = k := fun z => e (h1.trans z)
      have a1 : valE (p :: ps) k = valE ps k := by simp [valE, List.find?_cons, e]
      have b : atA (q :: qs) k = atA qs k := by simp [atA, List.find?_cons, e']
      rw [a1, b]
      exact ih
theorem ent_repl {es : List EnV} {xs : List Ent} (r : Paired EntR es xs) (k : NestedKey) {v : V} {u : Value} (rv : RelV v u) : Paired EntR (es.map fun e => if e.1 = k then (e.1, e.2.1, v) else e) (xs.map (putA k u)) := by
  induction r with
  | nil => exact .nil
  | @cons p q ps qs h t ih =>
    rw [List.map_cons, List.map_cons]
    refine .cons ?_ ih
    obtain ⟨h1, h2, h3⟩ := h
    unfold putA
    by_cases e : p.1 = k
    · rw [if_pos e, if_pos (h1.symm.trans e)]
      exact ⟨h1, h2, rv⟩
    · rw [if_neg e, if_neg (fun z => e (h1.trans z))]
      exact ⟨h1, h2, h3⟩
theorem ent_put {es : List EnV} {xs : List Ent} (r : Paired EntR es xs) (k : NestedKey) {y v : V} {b u : Value} (ry : RelV y b) (rv : RelV v u) : Paired EntR (putE es k y v) (storeA xs k b u) := by
  have e : (valE es k).isSome = (atA xs k).isSome := by rw [(ent_val r k).isSome_eq, Option.isSome_map]
  unfold putE storeA
  rw [e]
  by_cases q : (atA xs k).isSome = true
  · rw [if_pos q, if_pos q]
    exact ent_repl r k rv
  · rw [if_neg q, if_neg q]
    exact Paired.snoc r ⟨rfl, ry, rv⟩
theorem putE_len (es : List EnV) (k : NestedKey) (y v : V) : (putE es k y v).length ≤ es.length + 1 := by
  unfold putE
  split
  · rw [List.length_map]; omega
  · rw [List.length_append]; exact Nat.le_refl _
theorem dctO_stable {wd : World} {a : Addr} {es : List EnV} {h1 h2 : Heap} (x : es.length ≤ sizeLine ∧ (a == sysModules) = false ∧ ∃ o ds ep, h1.get? a = some o ∧ o.ExactDict ∧ o.data = .dict ds ep ∧ Paired (fun (e : EnV) (d : DictEntry) => d.hash = e.1.hash wd ∧ RelV e.2.1 d.key ∧ RelV e.2.2 d.val) es ds.toList)
    (k : ∀ o, h1.get? a = some o → h2.get? a = some o) : es.length ≤ sizeLine ∧ (a == sysModules) = false ∧ ∃ o ds ep, h2.get? a = some o ∧ o.ExactDict ∧ o.data = .dict ds ep ∧ Paired (fun (e : EnV) (d : DictEntry) => d.hash = e.1.hash wd ∧ RelV e.2.1 d.key ∧ RelV e.2.2 d.val) es ds.toList := by
  obtain ⟨z, lo, o, ds, ep, h, r⟩ := x
  exact ⟨z, lo, o, ds, ep, k o h, r⟩
theorem ents_of {wd : World} : ∀ {es : List EnV} {ds : List DictEntry}, Paired (fun (e : EnV) (d : DictEntry) => d.hash = e.1.hash wd ∧ RelV e.2.1 d.key ∧ RelV e.2.2 d.val) es ds → ∃ xs : List Ent, ds = xs.map (entA wd) ∧ Paired EntR es xs
  | _, _, .nil => ⟨[], rfl, .nil⟩
  | _, _, .cons (a := e) (b := d) h t => by
    obtain ⟨xs, e1, r⟩ := ents_of t
    obtain ⟨h1, h2, h3⟩ := h
    refine ⟨(e.1, d.key, d.val) :: xs, ?_, .cons ⟨rfl, h2, h3⟩ r⟩
    rw [List.map_cons, ← e1]
    show d :: _ = (⟨e.1.hash wd, d.key, d.val⟩ : DictEntry) :: _
    rw [← h1]
theorem ents_to {wd : World} : ∀ {es : List EnV} {xs : List Ent}, Paired EntR es xs → Paired (fun (e : EnV) (d : DictEntry) => d.hash = e.1.hash wd ∧ RelV e.2.1 d.key ∧ RelV e.2.2 d.val) es (xs.map (entA wd))
  | _, _, .nil => .nil
  | _, _, .cons h t => .cons ⟨by rw [h.1]; rfl, h.2.1, h.2.2⟩ (ents_to t)
theorem ents_keys : ∀ {es : List EnV} {xs : List Ent}, Paired EntR es xs → es.map (·.1) = xs.map (·.1)
  | _, _, .nil => rfl
  | _, _, .cons h t => by rw [List.map_cons, List.map_cons, ents_keys t, h.1]
section
variable {X : Cx} {pins : List (Addr × Obj)} {σ : L2.St} {H : Hp} {s : Shared} {a : Addr} {es : List EnV}
theorem DctAt.raw (I : Inv X pins σ H s) (d : DctAt X.K X.w H a es) : ∃ xs, DictA X.w s.heap a xs ∧ (a == sysModules) = false ∧ xs.length ≤ sizeLine ∧ Paired EntR es xs := by
  have ok : ObjOk X.prog X.w H s.heap a (DctO X.w a es) := by
    rcases d.ob with e | ⟨o, e⟩
    · exact I.hok a _ e
    · exact (show s.heap.get? a = some o ∧ ObjOk X.prog X.w H s.heap a (DctO X.w a es) from I.hok a _ e).2
  obtain ⟨⟨z, lo, o, ds, ep, h1, h2, h3, h4⟩, _, _⟩ := ok
  obtain ⟨xs, e1, r⟩ := ents_of h4
  refine ⟨xs, ⟨o, ds, ep, h1, h2, h3, e1, fun x hx => ?_, by rw [← ents_keys r]; exact d.nd⟩, lo, by rw [← Paired.length r]; exact z, r⟩
  have all : ∀ {l : List EnV} {m : List Ent}, Paired EntR l m → (∀ e ∈ l, KeyV X.K H e.1 e.2.1 ∧ e.1.depth ≤ 8) → ∀ x ∈ m, KeyIs s.heap x.1 x.2.1 := by
    intro l m q
    induction q with
    | nil => intro _ x hx; exact nomatch hx
    | @cons p q ps qs hq t ih =>
      intro hk x hx
      rcases List.mem_cons.mp hx with e | hx
      · subst e
        obtain ⟨k1, k2⟩ := hk p (by simp)
        rw [hq.1] at k1 k2
        exact ⟨KeyV.raw I _ _ _ k1 hq.2.1, k2⟩
      · exact ih (fun e he => hk e (by simp [he])) x hx
  exact all r d.ky x hx
theorem dct_write {h' : Heap} {t' : Nat} {es' : List EnV} {xs' : List Ent} (I : Inv X pins σ H s) (e : H a = some (DctO X.w a es)) (lo : (a == sysModules) = false) (hs : Heap.SameBut a s.heap h') (hm : DictA X.w h' a xs') (r : Paired EntR es' xs') (hl : es'.length ≤ sizeLine) :
    Inv X pins σ (upd H a (DctO X.w a es')) { s with heap := h', toks := t' } := by
  obtain ⟨o, ds, ep, h1, h2, h3, h4, _, _⟩ := hm
  refine I.write (x := a) (e := a) (by rw [e]; exact True.intro) (.inl rfl) (fun b q hb z => (hs.2 b hb).trans z) ⟨o, h1⟩ ⟨⟨hl, lo, o, ds, ep, h1, h2, h3, by rw [h4]; exact ents_to r⟩, ⟨o, h1⟩, fun a1 a2 x k => dctO_stable x k⟩

/-! ### the rules by values -/
def rIxD (K : PySem.W.Frag) (wd : World) : R2 := fun x y H Q => ∃ a es k v, x = .ref a ∧ DctAt K wd H a es ∧ KeyV K H k y ∧ k.depth ≤ 8 ∧ valE es k = some v ∧ Q v H
theorem ix_dict (hu : X.A.units + 64 < cLine) : IxR X (rIxD X.K X.w) := by
  intro value slice pins s σ H x y v u Q I rx ry h hs
  obtain ⟨a, es, k, z, rfl, hd, hk, hk8, hv, q⟩ := h
  cases rx
  obtain ⟨xs, hm, lo, hsz, r⟩ := hd.raw I
  obtain ⟨w', hw, rw'⟩ := RelO.some_of (v := z) (o := (atA xs k).map (·.2)) (by rw [← hv]; exact ent_val r k)
  obtain ⟨p, hp, hp2⟩ := Option.map_eq_some_iff.mp hw
  refine tail_any hm.typeIs F.slot_dict_getitem.lookup (itemA (by show X.A.units + 1 + 8 < cLine; omega) ⟨KeyV.raw I _ _ _ hk ry, hk8⟩ hm hp ?_) hs
  rw [hp2]
  exact ⟨z, H, I.tok _, rw', q⟩
def rSetD (K : PySem.W.Frag) (wd : World) : TSet := fun o i v H Q => ∃ a es k, o = .ref a ∧ H a = some (DctO wd a es) ∧ DctAt K wd H a es ∧ KeyV K H k i ∧ k.depth ≤ 8 ∧ es.length < 1000000 ∧ Q (upd H a (DctO wd a (putE es k i v)))
theorem set_dict (hu : X.A.units + 64 < cLine) : PSet X (rSetD X.K X.w) := by
  intro pins s σ H o i v ov iv u Q I ro ri rv h
  obtain ⟨a, es, k, rfl, e, hd, hk, hk8, hl, q⟩ := h
  cases ro
  obtain ⟨xs, hm, lo, hsz, r⟩ := hd.raw I
  refine setItemA (by show X.A.units + 1 + 8 < cLine; omega) ⟨KeyV.raw I _ _ _ hk ri, hk8⟩ hm (fun h' hm' hs' => ⟨_, dct_write I e lo hs' hm' (ent_put r k ri rv) ?_, q⟩) hsz
  have := putE_len es k i v
  rw [sizeLine_eq]
  omega
theorem PSet.or {t t' : TSet} (h : PSet X t) (h' : PSet X t') : PSet X (fun o i v H Q => t o i v H Q ∨ t' o i v H Q) := by
  intro pins s σ H o i v ov iv u Q I ro ri rv q
  rcases q with q | q
  · exact h pins s σ H o i v ov iv u Q I ro ri rv q
  · exact h' pins s σ H o i v ov iv u Q I ro ri rv q
def rGetD (K : PySem.W.Frag) (wd : World) : V → List V → Hp → VK → Prop := fun x vs H Q => ∃ a es k y z, x = .ref a ∧ vs = [y, z] ∧ DctAt K wd H a es ∧ KeyV K H k y ∧ k.depth ≤ 8 ∧ Q ((valE es k).getD z) H
theorem mt_get (hu : X.A.units + 64 < cLine) : MtR X "dict.get" (rGetD X.K X.w) := by
  intro pins s σ H x vs v us Q I rx rs h
  obtain ⟨a, es, k, y, z, rfl, rfl, hd, hk, hk8, q⟩ := h
  cases rx
  cases rs with
  | cons r1 rs =>
    cases rs with
    | cons r2 rs =>
      cases rs
      obtain ⟨xs, hm, lo, hsz, r⟩ := hd.raw I
      exact callGetA (by show X.A.units + 1 + 8 < cLine; omega) ⟨KeyV.raw I _ _ _ hk r1, hk8⟩ lo hm ⟨_, H, I.tok _, (ent_val r k).getD r2, q⟩
def rSdD (K : PySem.W.Frag) (wd : World) : V → List V → Hp → VK → Prop := fun x vs H Q => ∃ a es k y z, x = .ref a ∧ vs = [y, z] ∧ H a = some (DctO wd a es) ∧ DctAt K wd H a es ∧ KeyV K H k y ∧ k.depth ≤ 8 ∧ es.length < 1000000 ∧
  (∀ v, valE es k = some v → Q v H) ∧ (valE es k = none → Q z (upd H a (DctO wd a (putE es k y z))))
theorem mt_sd (hu : X.A.units + 64 < cLine) : MtR X "dict.setdefault" (rSdD X.K X.w) := by
  intro pins s σ H x vs v us Q I rx rs h
  obtain ⟨a, es, k, y, z, rfl, rfl, e, hd, hk, hk8, hl, q1, q2⟩ := h
  cases rx
  cases rs with
  | cons r1 rs =>
    cases rs with
    | cons r2 rs =>
      cases rs
      obtain ⟨xs, hm, lo, hsz, r⟩ := hd.raw I
      refine callSdA (by show X.A.units + 1 + 8 < cLine; omega) ⟨KeyV.raw I _ _ _ hk r1, hk8⟩ lo hm (fun p hp => ?_) (fun hn h' hm' hs' => ⟨z, _, dct_write I e lo hs' hm' (ent_put r k r1 r2) ?_, r2, q2 ?_⟩) hsz
      · have z1 := ent_val r k
        rw [hp] at z1
        cases ez : valE es k with
        | none => rw [ez] at z1; exact z1.elim
        | some v =>
          rw [ez] at z1
          exact ⟨v, H, I.tok _, z1, q1 v ez⟩
      · have := putE_len es k y z
        rw [sizeLine_eq]
        omega
      · have z1 := ent_val r k
        rw [hn] at z1
        cases ez : valE es k with
        | none => rfl
        | some v => rw [ez] at z1; exact z1.elim
def rInD (K : PySem.W.Frag) (wd : World) : R2 := fun y x H Q => ∃ a es k, x = .ref a ∧ DctAt K wd H a es ∧ KeyV K H k y ∧ k.depth ≤ 8 ∧ Q (.bl (valE es k).isSome) H
def rNinD (K : PySem.W.Frag) (wd : World) : R2 := fun y x H Q => ∃ a es k, x = .ref a ∧ DctAt K wd H a es ∧ KeyV K H k y ∧ k.depth ≤ 8 ∧ Q (.bl (!(valE es k).isSome)) H
theorem op_inDct (hu : X.A.units + 64 < cLine) : OpR X (compareOp .In) (rInD X.K X.w) := by
  intro pins s σ H y x v u Q I ry rx h
  obtain ⟨a, es, k, rfl, hd, hk, hk8, q⟩ := h
  cases rx
  obtain ⟨xs, hm, lo, hsz, r⟩ := hd.raw I
  have e : (valE es k).isSome = (atA xs k).isSome := by rw [(ent_val r k).isSome_eq, Option.isSome_map]
  show wpAny _ _ (do return Value.bool (← contains (Value.ref a) v) : Sem Value) _ _ s
  refine wpAny_bind (containsA (by show X.A.units + 1 + 8 < cLine; omega) ⟨KeyV.raw I _ _ _ hk ry, hk8⟩ lo hm (wpAny_pure ⟨.bl (valE es k).isSome, H, I.tok _, ?_, q⟩))
  rw [e]
  exact rfl
theorem op_ninDct (hu : X.A.units + 64 < cLine) : OpR X (compareOp .NotIn) (rNinD X.K X.w) := by
  intro pins s σ H y x v u Q I ry rx h
  obtain ⟨a, es, k, rfl, hd, hk, hk8, q⟩ := h
  cases rx
  obtain ⟨xs, hm, lo, hsz, r⟩ := hd.raw I
  have e : (valE es k).isSome = (atA xs k).isSome := by rw [(ent_val r k).isSome_eq, Option.isSome_map]
  show wpAny _ _ (do return Value.bool (!(← contains (Value.ref a) v)) : Sem Value) _ _ s
  refine wpAny_bind (containsA (by show X.A.units + 1 + 8 < cLine; omega) ⟨KeyV.raw I _ _ _ hk ry, hk8⟩ lo hm (wpAny_pure ⟨.bl (!(valE es k).isSome), H, I.tok _, ?_, q⟩))
  rw [e]
  exact rfl
end
end MM

/-! MMl: dicts as data; +, in, slices of lists and tuples; list(x). -/
namespace MM
open PySem PySem.Spec PyProof.Rows L2

noncomputable def getK : List (D × D) → D → Option D
  | [], _ => none
  | (g, x) :: r, k => if g = k then some x else getK r k
noncomputable def putK : List (D × D) → D → D → List (D × D)
  | [], k, v => [(k, v)]
  | (g, x) :: r, k, v => if g = k then (g, v) :: r else (g, x) :: putK r k v
def keyB (d : D) : Bool := match keyOf d with
  | some k => decide (k.depth ≤ 8)
  | none => false
theorem keyB_of {d : D} (h : keyB d = true) : ∃ k, keyOf d = some k ∧ k.depth ≤ 8 := by
  unfold keyB at h
  cases e : keyOf d with
  | none => rw [e] at h; cases h
  | some k => rw [e] at h; exact ⟨k, rfl, by simpa using h⟩
section
variable {K : PySem.W.Frag} {wd : World} {Fz H : Hp} {ι : Nat → Addr} {M : Mem}
theorem repE_get {n : Nat} {k : D} {nk : NestedKey} (hk : keyOf k = some nk) : ∀ {l : List (D × D)} {es : List EnV}, bndP n l → RepE K Fz ι l es → (getK l k = none → valE es nk = none) ∧ ∀ d, getK l k = some d → bnd n d ∧ ∃ v, valE es nk = some v ∧ RepV K Fz ι d v
  | [], _, _, r => by
    obtain rfl : _ = [] := r
    exact ⟨fun _ => rfl, fun d e => by cases e⟩
  | (g, x) :: l, _, b, r => by
    obtain ⟨nk', y, z, r', rfl, e1, e2, q1, q2, q3⟩ := r
    have ih := repE_get hk b.2 q3
    unfold getK
    by_cases h : g = k
    · have hn : nk' = nk := by rw [h, hk] at e1; exact (Option.some.inj e1).symm
      rw [if_pos h]
      refine ⟨fun z => (by cases z), fun d e => ?_⟩
      cases e
      exact ⟨b.1, z, by simp [valE, List.find?_cons, hn], q2⟩
    · have hn : ¬ nk' = nk := fun e => h (keyOf_inj g k nk (by rw [e1, e]) hk)
      rw [if_neg h]
      have e : valE ((nk', y, z) :: r') nk = valE r' nk := by simp [valE, List.find?_cons, hn]
      rw [e]
      exact ih
theorem repE_put {n : Nat} {k d : D} {nk : NestedKey} {y v : V} (hk : keyOf k = some nk) (h8 : nk.depth ≤ 8) (ry : RepV K Fz ι k y) (bd : bnd n d) (rd : RepV K Fz ι d v) : ∀ {l : List (D × D)} {es : List EnV}, bndP n l → RepE K Fz ι l es → (es.map (·.1)).Nodup →
    bndP n (putK l k d) ∧ RepE K Fz ι (putK l k d) (putE es nk y v)
  | [], _, _, r, _ => by
    obtain rfl : _ = [] := r
    exact ⟨⟨bd, trivial⟩, nk, y, v, [], rfl, hk, h8, ry, rd, rfl⟩
  | (g, x) :: l, _, b, r, nd => by
    obtain ⟨nk', y', z, r', rfl, e1, e2, q1, q2, q3⟩ := r
    rw [List.map_cons, List.nodup_cons] at nd
    have ih := repE_put hk h8 ry bd rd b.2 q3 nd.2
    unfold putK
    by_cases h : g = k
    · have hn : nk' = nk := by rw [h, hk] at e1; exact (Option.some.inj e1).symm
      rw [if_pos h]
      refine ⟨⟨bd, b.2⟩, nk', y', v, r', ?_, e1, e2, q1, rd, q3⟩
      have ev : (valE ((nk', y', z) :: r') nk).isSome = true := by simp [valE, List.find?_cons, hn]
      unfold putE
      rw [if_pos ev, List.map_cons]
      show (if nk' = nk then (nk', y', v) else (nk', y', z)) :: _ = _
      rw [if_pos hn]
      refine congrArg (List.cons (nk', y', v)) ?_
      have hm : ∀ e ∈ r', ¬ e.1 = nk := fun e he z => nd.1 (List.mem_map.mpr ⟨e, he, z.trans hn.symm⟩)
      calc r'.map (fun e => if e.1 = nk then (e.1, e.2.1, v) else e) = r'.map id := List.map_congr_left fun e he => if_neg (hm e he)
        _ = r' := List.map_id _
    · have hn : ¬ nk' = nk := fun e => h (keyOf_inj g k nk (by rw [e1, e]) hk)
      rw [if_neg h]
      refine ⟨⟨b.1, ih.1⟩, nk', y', z, putE r' nk y v, ?_, e1, e2, q1, q2, ih.2⟩
      have ev : valE ((nk', y', z) :: r') nk = valE r' nk := by simp [valE, List.find?_cons, hn]
      unfold putE
      rw [ev]
      split
      · rw [List.map_cons]
        show (if nk' = nk then (nk', y', v) else (nk', y', z)) :: _ = _
        rw [if_neg hn]
      · rfl
theorem repE_len : ∀ {l : List (D × D)} {es : List EnV}, RepE K Fz ι l es → l.length = es.length
  | [], _, r => by
    obtain rfl : _ = [] := r
    rfl
  | (g, x) :: l, _, r => by
    obtain ⟨nk', y, z, r', rfl, e1, e2, q1, q2, q3⟩ := r
    rw [List.length_cons, List.length_cons, repE_len q3]
theorem repE_keys (hz : ∀ a o, Fz a = some o → H a = some o) : ∀ {l : List (D × D)} {es : List EnV}, RepE K Fz ι l es → ∀ e ∈ es, KeyV K H e.1 e.2.1 ∧ e.1.depth ≤ 8
  | [], _, r => by
    obtain rfl : _ = [] := r
    exact fun e he => nomatch he
  | (g, x) :: l, _, r => by
    obtain ⟨nk', y, z, r', rfl, e1, e2, q1, q2, q3⟩ := r
    intro e he
    rcases List.mem_cons.mp he with rfl | he
    · exact ⟨keyV_of hz g nk' y e1 q1, e2⟩
    · exact repE_keys hz q3 e he
theorem putE_nd {es : List EnV} {k : NestedKey} {y v : V} (h : (es.map (·.1)).Nodup) : ((putE es k y v).map (·.1)).Nodup := by
  unfold putE
  split
  · have e : (es.map fun e => if e.1 = k then (e.1, e.2.1, v) else e).map (·.1) = es.map (·.1) := by
      rw [List.map_map]
      refine List.map_congr_left fun e _ => ?_
      by_cases q : e.1 = k <;> simp [q]
    rw [e]
    exact h
  · rename_i hn
    rw [List.map_append, List.nodup_append]
    refine ⟨h, by simp, fun a ha b hb e => hn ?_⟩
    simp only [List.map_cons, List.map_nil, List.mem_singleton] at hb
    obtain ⟨x, hx, ex⟩ := List.mem_map.mp ha
    have hx1 : x.1 = k := ex.trans (e.trans hb)
    unfold valE
    rw [Option.isSome_map, List.find?_isSome]
    exact ⟨x, hx, by simpa using hx1⟩
/-- a dict that is read -/
def dctD (M : Mem) : D → Option (List (D × D))
  | .ptr k => match M[k]? with
    | some (.dct l) => some l
    | some (.dcl l) => some l
    | _ => none
  | _ => none
theorem dctD_at {a : D} {x : V} {l : List (D × D)} (R : Rel K wd Fz H ι M) (ra : RepV K Fz ι a x) (h : dctD M a = some l) : ∃ k es, a = .ptr k ∧ x = .ref (ι k) ∧ DctAt K wd H (ι k) es ∧ RepE K Fz ι l es ∧ bndP M.length l ∧ (M[k]? = some (.dct l) → H (ι k) = some (DctO wd (ι k) es)) := by
  cases a with
  | ptr k =>
    unfold dctD at h
    dsimp only at h
    have ra : x = _ := ra
    subst ra
    split at h
    · rename_i l' e
      cases h
      obtain ⟨_, es, e1, r, nd⟩ := R.ob k _ e
      exact ⟨k, es, rfl, rfl, ⟨.inl e1, repE_keys R.fz r, nd⟩, r, R.wf k _ e, fun _ => e1⟩
    · rename_i l' e
      cases h
      obtain ⟨_, o, es, e1, r, nd⟩ := R.ob k _ e
      refine ⟨k, es, rfl, rfl, ⟨.inr ⟨o, e1⟩, repE_keys R.fz r, nd⟩, r, R.wf k _ e, fun z => ?_⟩
      rw [e] at z
      cases z
    · cases h
  | _ => cases h
theorem wr_dct {k : Nat} {l : List (D × D)} {es : List EnV} {kd d : D} {nk : NestedKey} {y v : V} (R : Rel K wd Fz H ι M) (e : M[k]? = some (.dct l)) (r : RepE K Fz ι l es) (nd : (es.map (·.1)).Nodup) (hk : keyOf kd = some nk) (h8 : nk.depth ≤ 8) (ry : RepV K Fz ι kd y) (bd : bnd M.length d) (rd : RepV K Fz ι d v) :
    Rel K wd Fz (upd H (ι k) (DctO wd (ι k) (putE es nk y v))) ι (M.set k (.dct (putK l kd d))) ∧ Grow Fz H ι M.length Fz (upd H (ι k) (DctO wd (ι k) (putE es nk y v))) ι (M.set k (.dct (putK l kd d))).length := by
  obtain ⟨b, r2⟩ := repE_put hk h8 ry bd rd (R.wf k _ e) r nd
  exact R.write (mo := .dct (putK l kd d)) (List.getElem?_eq_some_iff.mp e).1 (R.ob k _ e).1 b ⟨(R.ob k _ e).1, _, upd_same, r2, putE_nd nd⟩
end

/-! ### {} -/
def eDct : EF := fun _ M => .ok (.ptr M.length) (M ++ [.dct []])
def tDNewA (wd : World) : TE := fun _ H Q => ∀ p, H p = none → Q (.ref p) (upd H p (DctO wd p []))
theorem pe_dnewA {X : Cx} {pos : Pos} : PE X (.Dict [] [] pos) (tDNewA X.w) := ⟨fun pins s σ H Q I h =>
  wpAny_Dict_empty ⟨.ref s.heap.objs.size, _, I.laid (a := s.heap.objs.size) (o := DctO X.w s.heap.objs.size []) (t' := s.toks) (fun _ _ q => Heap.get?_push_of_some _ q) (Nat.le_refl _)
    ⟨⟨Nat.zero_le _, beq_eq_false_iff_ne.mpr (Ne.symm (Nat.ne_of_lt I.big)), _, #[], 0, Heap.get?_push_size _ rfl, ⟨rfl, rfl, rfl⟩, rfl, .nil⟩, ⟨_, Heap.get?_push_size _ rfl⟩, fun _ _ x k => dctO_stable x k⟩, rfl, h _ (I.hok.fresh (Nat.le_refl _))⟩⟩
section
variable {X : Cx} {E : XK} {K : PySem.W.Frag} {wd : World} {o i e : Expr} {es : List Expr} {fo fi fe : EF} {fa : AF} {pos tpos apos cpos : Pos}
theorem xe_dct : XE X E (.Dict [] [] pos) eDct := pe_dnewA.imp (by
  rintro σ H Q ⟨Fz, ι, M, ρ, S, q⟩
  intro p hp
  obtain ⟨R2, g2⟩ := S.rel.alloc (o := DctO X.w p []) (mo := .dct []) hp trivial fun H' ι' e _ z => ⟨z, [], e, rfl, List.nodup_nil⟩
  exact q _ _ _ _ g2 R2 ⟨by simp [bnd], by show V.ref p = V.ref (ext ι M.length p M.length); rw [ext_same]⟩)

/-! ### d[k] -/
noncomputable def ixA (a i : D) (M : Mem) : Fl D := match dctD M a with
  | some l => if keyB i = true then match getK l i with
      | some d => .ok d M
      | none => .fail
    else .fail
  | none => ixD a i M
theorem os_ixA : OpS K wd E (fun x y H Q => rIxD K wd x y H Q ∨ rIx K x y H Q) ixA := by
  intro Fz H ι M a b x y Q R ba bb ra rb q
  unfold ixA at q
  split at q
  · rename_i l hl
    split at q
    · rename_i hk
      obtain ⟨nk, k1, k2⟩ := keyB_of hk
      obtain ⟨k, es, rfl, rfl, hd, r, bl, _⟩ := dctD_at R ra hl
      split at q
      · rename_i d hd2
        obtain ⟨bd, v, hv, rv⟩ := (repE_get k1 bl r).2 d hd2
        exact .inl ⟨ι k, es, nk, v, rfl, hd, keyV_of R.fz b nk y k1 rb, k2, hv, q.now R ⟨bd, rv⟩⟩
      · exact q.elim
    · exact q.elim
  · exact .inr (os_ix Fz H ι M a b x y Q R ba bb ra rb q)
theorem ix_any (hu : X.A.units + 64 < cLine) : IxR X (fun x y H Q => rIxD X.K X.w x y H Q ∨ rIx X.K x y H Q) := (ix_dict hu).or ix_seq

/-! ### d[k] = e, xs[i] = e -/
noncomputable def setD (a i d : D) (M : Mem) : Option Mem := match a with
  | .ptr k => match M[k]? with
    | some (.dct l) => if keyB i = true ∧ l.length < 1000000 then some (M.set k (.dct (putK l i d))) else none
    | some (.lst l) => match i with
      | .int z => match ixN l.length z with
        | some j => some (M.set k (.lst (l.set j d)))
        | none => none
      | _ => none
    | _ => none
  | _ => none
noncomputable def sSetA (fo fi fe : EF) : SF := fun ρ M => (fe ρ M).bind fun d M1 => (fo ρ M1).bind fun a M2 => (fi ρ M2).bind fun i M3 => match setD a i d M3 with
  | some M4 => .ok (.nx ρ) M4
  | none => .fail
theorem setD_ok {Fz H : Hp} {ι : Nat → Addr} {M M4 : Mem} {a i d : D} {x y v : V} (R : Rel K wd Fz H ι M) (ra : RepV K Fz ι a x) (ri : RepV K Fz ι i y) (bd : bnd M.length d) (rd : RepV K Fz ι d v) (h : setD a i d M = some M4) {Q : Hp → Prop}
    (hq : ∀ H', Rel K wd Fz H' ι M4 → Grow Fz H ι M.length Fz H' ι M4.length → Q H') : rSetL x y v H Q ∨ rSetD K wd x y v H Q := by
  unfold setD at h
  split at h
  · rename_i k
    have ra : x = _ := ra
    subst ra
    split at h
    · rename_i l e
      split at h
      · rename_i hc
        cases h
        obtain ⟨nk, k1, k2⟩ := keyB_of hc.1
        obtain ⟨h0, es, e1, r, nd⟩ := R.ob k _ e
        obtain ⟨R2, g2⟩ := wr_dct R e r nd k1 k2 ri bd rd
        exact .inr ⟨ι k, es, nk, rfl, e1, ⟨.inl e1, repE_keys R.fz r, nd⟩, keyV_of R.fz i nk y k1 ri, k2, by rw [← repE_len r]; exact hc.2, hq _ R2 g2⟩
      · cases h
    · rename_i l e
      split at h
      · rename_i z
        split at h
        · rename_i j hj
          cases h
          obtain ⟨_, ws, e1, rw⟩ := R.ob k _ e
          have ri : y = _ := ri
          subst ri
          obtain ⟨R2, g2⟩ := wr_lst (l' := l.set j d) (ws' := ws.set j v) R e (bndL_set (R.wf k _ e) bd) (rw.set j rd)
          exact .inl ⟨ι k, ws, z, j, rfl, rfl, e1, by rw [← rw.len]; exact hj, hq _ R2 g2⟩
        · cases h
      · cases h
    · cases h
  · cases h
theorem xs_setA (hu : X.A.units + 64 < cLine) (ho : XE X E o fo) (hi : XE X E i fi) (he : XE X E e fe) (hs : swapsWithSole [.Subscript o i tpos] e pos.line X.env = pure false := by rfl) (hw : swappedStores [.Subscript o i tpos] e X.env = pure none := by rfl)
    (h1 : (assignEach [.Subscript o i tpos] X.env).map (·.2) = [assign (.Subscript o i tpos) X.env] := by rfl)
    (ha : ∀ v, assign (.Subscript o i tpos) X.env v = (do
      let ob ← holding [v] (eval o X.env)
      let ix ← holding [v, ob] (eval i X.env)
      standAt tpos
      holding [v, ob, ix] (setItem ob ix v)
      release [v, ob, ix] []) := by intro _; rfl) : XS X E (.Assign [.Subscript o i tpos] e pos) (sSetA fo fi fe) := (ps_asg he (pg_sub ho hi (PSet.or set_list (set_dict hu)) ha) hs hw h1).imp (by
  rintro D σ H ⟨Fz, ι, M, ρ, S, q⟩
  refine ⟨Fz, ι, M, ρ, S, q.first fun d M1 Fz1 H1 ι1 x g1 R1 rd q1 => ?_⟩
  refine ⟨Fz1, ι1, M1, ρ, S.grow g1 R1, q1.first fun a M2 Fz2 H2 ι2 y g2 R2 ra q2 => ?_⟩
  refine ⟨Fz2, ι2, M2, ρ, S.grow (g1.trans g2) R2, q2.first fun b M3 Fz3 H3 ι3 z g3 R3 rb q3 => ?_⟩
  have rd3 := (g2.trans g3).rep rd.1 rd.2
  have bd3 := bnd.up (g2.trans g3).le d rd.1
  have ra3 := g3.rep ra.1 ra.2
  split at q3
  · rename_i M4 hM
    exact setD_ok R3 ra3 rb.2 bd3 rd3 hM fun H' R4 g4 => q3 _ _ _ _ g4 (S.grow (((g1.trans g2).trans g3).trans g4) R4)
  · exact q3.elim)

/-! ### d.get(k, x), d.setdefault(k, x) -/
def MdS (K : PySem.W.Frag) (wd : World) (E : XK) (r : V → List V → Hp → VK → Prop) (op : D → List D → Mem → Fl D) : Prop :=
  ∀ Fz H ι M a l x vs Q, Rel K wd Fz H ι M → bnd M.length a → bndL M.length l → RepV K Fz ι a x → RepL K Fz ι l vs → Post K wd E Fz H ι M.length (RD K) Q (op a l M) → r x vs H Q
noncomputable def eMd (op : D → List D → Mem → Fl D) (fo : EF) (fa : AF) : EF := fun ρ M => (fo ρ M).bind fun a M1 => if (dctD M1 a).isSome = true then (fa ρ M1).bind fun l M2 => op a l M2 else .fail
theorem dct_type {pins : List (Addr × Obj)} {σ : L2.St} {H : Hp} {s : Shared} {a : Addr} {es : List EnV} (I : Inv X pins σ H s) (d : DctAt X.K X.w H a es) : s.TypeIs (.ref a) "dict" ∧ ∀ b, Value.ref a = .ref b → ∃ ob, s.heap.get? b = some ob ∧ ob.dict = none := by
  obtain ⟨xs, hm, _⟩ := d.raw I
  refine ⟨hm.typeIs, fun b e => ?_⟩
  cases e
  obtain ⟨o, _, _, h1, h2, _⟩ := hm
  exact ⟨o, h1, h2.2.1⟩
theorem xe_md {name : Str} {id : String} {r : V → List V → Hp → VK → Prop} {op : D → List D → Mem → Fl D} (slot : Slot "dict" name id) (hty : typeOf (.builtin id) = pure (.type "method_descriptor")) (hm : MtR X id r) (hS : MdS X.K X.w E r op) (ho : XE X E o fo) (ha : XA X E (e :: es) fa)
    (hbase : attributeBase o name X.env (eval o X.env) = eval o X.env := by rfl)
    (hfew : ((backTo cpos (starEach (e :: es) X.env)).all (fun x => !x.1) && (backToKw cpos (keywordEach [] X.env)).all (fun x => x.1.isSome) && decide ((e :: es).length + ([] : List Keyword).length + (if ([] : List Keyword).isEmpty then 0 else 1) < 30)) = true := by rfl)
    (hline : (apos.endLine == cpos.line) = true := by rfl) (hs : starEach (e :: es) X.env = (false, eval e X.env) :: starEach es X.env := by rfl) (hplain : (backTo cpos (starEach es X.env)).any (·.1) = false := by rfl) :
    XE X E (.Call (.Attribute o name apos) (e :: es) [] cpos) (eMd op fo fa) := by
  refine ⟨fun pins s σ H Q I h => ?_⟩
  obtain ⟨Fz, ι, M, ρ, S, q⟩ := h
  refine wpAny_Call_method_late hbase hfew hline rfl (thn (ho.run pins s σ H (fun x H1 => (∃ a es, x = .ref a ∧ DctAt X.K X.w H1 a es) ∧ wA X.K X.w E fa σ H1 fun vs H2 => r x vs H2 Q) I ⟨Fz, ι, M, ρ, S, q.first fun a M1 Fz1 H1 ι1 x g1 R1 ra q1 => ?_⟩) fun v s1 ⟨x, H1, I1, r1, ty, q1⟩ => ?_)
  · split at q1
    · rename_i hi
      obtain ⟨l, hl⟩ := Option.isSome_iff_exists.mp hi
      obtain ⟨k, es, _, e2, hd, _⟩ := dctD_at R1 ra.2 hl
      refine ⟨⟨ι1 k, es, e2, hd⟩, Fz1, ι1, M1, ρ, S.grow g1 R1, q1.first fun l M2 Fz2 H2 ι2 vs g2 R2 rb q2 => ?_⟩
      exact hS Fz2 H2 ι2 M2 a l x vs Q R2 (bnd.up g2.le a ra.1) rb.1 (g2.rep ra.1 ra.2) rb.2 q2
    · exact q1.elim
  · obtain ⟨a, es, ex, hd⟩ := ty
    subst ex
    obtain rfl : v = Value.ref a := r1
    obtain ⟨h1, h2⟩ := dct_type I1 hd
    refine ⟨"dict", id, F.plainAttrs_dict, slot, hty, h1, h2, ?_⟩
    have hA := ha.run cpos pins s1 σ H1 _ I1 q1
    rw [hs] at hA ⊢
    refine Calls.callWith_builtin (by show (false || (backTo cpos (starEach _ X.env)).any (·.1)) = false; rw [hplain] <;> rfl) (Calls.evalArgs_plain ?_)
    exact thn hA fun us s2 ⟨vs, H2, I2, r2, q2⟩ => hm pins s2 σ H2 (.ref a) vs (.ref a) us Q I2 rfl r2 q2
noncomputable def getD (a : D) (l : List D) (M : Mem) : Fl D := match dctD M a, l with
  | some es, [k, z] => if keyB k = true then .ok ((getK es k).getD z) M else .fail
  | _, _ => .fail
theorem ms_get : MdS K wd E (rGetD K wd) getD := by
  intro Fz H ι M a l x vs Q R ba bl ra rl q
  unfold getD at q
  split at q
  · rename_i es0 k z hl
    obtain ⟨y, z', rfl, ry, rz⟩ := rl.two
    split at q
    · rename_i hk
      obtain ⟨nk, k1, k2⟩ := keyB_of hk
      obtain ⟨k0, es, rfl, rfl, hd, r, blx, _⟩ := dctD_at R ra hl
      refine ⟨ι k0, es, nk, y, z', rfl, rfl, hd, keyV_of R.fz k nk y k1 ry, k2, ?_⟩
      have g := repE_get k1 blx r
      cases e : getK es0 k with
      | none =>
        rw [e] at q
        rw [g.1 e]
        exact q.now R ⟨bl.2.1, rz⟩
      | some d =>
        rw [e] at q
        obtain ⟨bd, v, hv, rv⟩ := g.2 d e
        rw [hv]
        exact q.now R ⟨bd, rv⟩
    · exact q.elim
  · exact q.elim
noncomputable def sdD (a : D) (l : List D) (M : Mem) : Fl D := match a, l with
  | .ptr p, [k, z] => match M[p]? with
    | some (.dct es) => if keyB k = true ∧ es.length < 1000000 then match getK es k with
        | some d => .ok d M
        | none => .ok z (M.set p (.dct (putK es k z)))
      else .fail
    | _ => .fail
  | _, _ => .fail
theorem ms_sd : MdS K wd E (rSdD K wd) sdD := by
  intro Fz H ι M a l x vs Q R ba bl ra rl q
  unfold sdD at q
  split at q
  · rename_i p k z
    obtain ⟨y, z', rfl, ry, rz⟩ := rl.two
    have ra : x = _ := ra
    subst ra
    split at q
    · rename_i es0 e
      split at q
      · rename_i hc
        obtain ⟨nk, k1, k2⟩ := keyB_of hc.1
        obtain ⟨h0, es, e1, r, nd⟩ := R.ob p _ e
        have g := repE_get k1 (R.wf p _ e) r
        refine ⟨ι p, es, nk, y, z', rfl, rfl, e1, ⟨.inl e1, repE_keys R.fz r, nd⟩, keyV_of R.fz k nk y k1 ry, k2, by rw [← repE_len r]; exact hc.2, fun v hv => ?_, fun hv => ?_⟩
        · cases eg : getK es0 k with
          | none => rw [g.1 eg] at hv; cases hv
          | some d =>
            rw [eg] at q
            obtain ⟨bd, v', hv', rv⟩ := g.2 d eg
            rw [hv] at hv'
            cases hv'
            exact q.now R ⟨bd, rv⟩
        · cases eg : getK es0 k with
          | some d =>
            obtain ⟨bd, v', hv', rv⟩ := g.2 d eg
            rw [hv] at hv'
            cases hv'
          | none =>
            rw [eg] at q
            obtain ⟨R2, g2⟩ := wr_dct R e r nd k1 k2 ry bl.2.1 rz
            exact q _ _ _ _ g2 R2 ⟨bnd.up g2.le z bl.2.1, rz⟩
      · exact q.elim
    · exact q.elim
  · exact q.elim
end
end MM

/-! MMm: +, in, slices, list(x), sorted(x) of lists, tuples, dicts. -/
namespace MM
open PySem PySem.Spec PyProof.Rows L2

theorem _root_.L2.Room.units65 {k : Nat} {A : Around} (r : Room k A) : A.units + 65 < cLine := by have := r.un; omega
theorem _root_.L2.Room.units80 {k : Nat} {A : Around} (r : Room k A) : A.units + 180 < cLine := by have := r.un; omega

/-- a list that is read (not the script) -/
def lstD (M : Mem) : D → Option (List D)
  | .lst l => some l
  | .ptr k => match M[k]? with
    | some (.lst l) => some l
    | _ => none
  | _ => none
/-- a new list: for good, or to change -/
def newL (P : Bool) (l : List D) (M : Mem) : Fl D := if P = true then .ok (.ptr M.length) (M ++ [.lst l]) else .ok (.lst l) M
section
variable {K : PySem.W.Frag} {wd : World} {E : XK} {Fz H : Hp} {ι : Nat → Addr} {M : Mem}
theorem lstD_at {a : D} {x : V} {l : List D} (R : Rel K wd Fz H ι M) (ba : bnd M.length a) (ra : RepV K Fz ι a x) (h : lstD M a = some l) : ∃ p vs, x = .ref p ∧ H p = some (.lst vs) ∧ RepL K Fz ι l vs ∧ bndL M.length l := by
  cases a with
  | lst l' =>
    cases h
    obtain ⟨p, vs, rfl, hs, r⟩ := ra
    exact ⟨p, vs, rfl, R.fz _ _ hs, r, ba⟩
  | ptr k =>
    unfold lstD at h
    dsimp only at h
    have ra : x = _ := ra
    subst ra
    split at h
    · rename_i l' e
      cases h
      obtain ⟨_, vs, e1, r⟩ := R.ob k _ e
      exact ⟨_, vs, rfl, e1, r, R.wf k _ e⟩
    · cases h
  | _ => cases h
theorem newL_post {P : Bool} {l : List D} {vs : List V} {Q : VK} (R : Rel K wd Fz H ι M) (b : bndL M.length l) (r : RepL K Fz ι l vs) (q : Post K wd E Fz H ι M.length (RD K) Q (newL P l M)) : ∀ p, H p = none → Q (.ref p) (upd H p (.lst vs)) := by
  intro p hp
  unfold newL at q
  split at q
  · obtain ⟨R2, g2⟩ := alloc_lst R hp b r
    exact q _ _ _ _ g2 R2 ⟨by simp [bnd], by show V.ref p = V.ref (ext ι M.length p M.length); rw [ext_same]⟩
  · obtain ⟨R2, g2⟩ := R.laid (o := .lst vs) hp
    exact q _ _ _ _ g2 R2 ⟨b, p, vs, rfl, upd_same, g2.repL b r⟩
end

/-! ### + -/
def addA (P : Bool) (a b : D) (M : Mem) : Fl D := match a, b with
  | .tup l, .tup m => if l.length + m.length ≤ 1000000 then .ok (.tup (l ++ m)) M else .fail
  | a, b => match lstD M a, lstD M b with
    | some l, some m => if l.length + m.length ≤ 1000000 then newL P (l ++ m) M else .fail
    | _, _ => addD a b M
def rAddB (K : PySem.W.Frag) : R2 := fun x y H Q => rAddA x y H Q ∨ rCat x y H Q ∨ rCatA K x y H Q
section
variable {X : Cx} {K : PySem.W.Frag} {wd : World} {E : XK}
theorem or_addB : OpR X (binaryOp .Add) (rAddB X.K) := OpR.or or_addA (OpR.or op_cat op_catA)
theorem os_addB (P : Bool) : OpS K wd E (rAddB K) (addA P) := by
  intro Fz H ι M a b x y Q R ba bb ra rb q
  have gen : Post K wd E Fz H ι M.length (RD K) Q (match lstD M a, lstD M b with
    | some l, some m => if l.length + m.length ≤ 1000000 then newL P (l ++ m) M else .fail
    | _, _ => addD a b M) → rAddB K x y H Q := fun q => by
    cases e1 : lstD M a with
    | none =>
      rw [e1] at q
      exact .inl (os_add Fz H ι M a b x y Q R ba bb ra rb q)
    | some l =>
      cases e2 : lstD M b with
      | none =>
        rw [e1, e2] at q
        exact .inl (os_add Fz H ι M a b x y Q R ba bb ra rb q)
      | some m =>
        rw [e1, e2] at q
        dsimp only at q
        split at q
        · rename_i hl
          obtain ⟨p, vs, rfl, h1, r1, b1⟩ := lstD_at R ba ra e1
          obtain ⟨p2, ws, rfl, h2, r2, b2⟩ := lstD_at R bb rb e2
          refine .inr (.inl ⟨p, p2, vs, ws, rfl, rfl, h1, h2, by rw [← r1.len, ← r2.len, sizeLine_eq]; omega, ?_⟩)
          exact newL_post R (bndL_append.mpr ⟨b1, b2⟩) (r1.append r2) q
        · exact q.elim
  unfold addA at q
  split at q
  · rename_i l m
    split at q
    · rename_i hl
      obtain ⟨p, vs, rfl, h1, r1⟩ := ra
      obtain ⟨p2, ws, rfl, h2, r2⟩ := rb
      refine .inr (.inr ⟨p, p2, vs, ws, rfl, rfl, SqT.up R.fz h1, SqT.up R.fz h2, by rw [← r1.len, ← r2.len, sizeLine_eq]; omega, fun e => ?_, fun _ e => ?_, fun _ _ p3 hp3 => ?_⟩)
      · have e0 : l = [] := List.length_eq_zero_iff.mp (by rw [r1.len, e]; rfl)
        subst e0
        exact q.now R ⟨bb, p2, ws, rfl, h2, r2⟩
      · have e0 : m = [] := List.length_eq_zero_iff.mp (by rw [r2.len, e]; rfl)
        subst e0
        rw [List.append_nil] at q
        exact q.now R ⟨ba, p, vs, rfl, h1, r1⟩
      · obtain ⟨R2, g2⟩ := R.laid (o := .tup (vs ++ ws)) hp3
        have bc : bndL M.length (l ++ m) := bndL_append.mpr ⟨ba, bb⟩
        exact q _ _ _ _ g2 R2 ⟨bc, p3, _, rfl, .inl (.inl upd_same), g2.repL bc (r1.append r2)⟩
    · exact q.elim
  · exact gen q
end

/-! ### x in xs -/
noncomputable def inG (x y : D) (M : Mem) : Option Bool := match dctD M y with
  | some l => if keyB x = true then some (getK l x).isSome else none
  | none => match toPy (viewD M x), toPy (viewD M y) with
    | some p, some (.list ds) => if SeqAt.shaped p = true ∧ SeqAt.shaped (.list ds) = true then some (ds.any fun z => PyData.eqv z p) else none
    | _, _ => none
noncomputable def inA (x y : D) (M : Mem) : Fl D := match inG x y M with
  | some b => .ok (.bl b) M
  | none => .fail
noncomputable def ninA (x y : D) (M : Mem) : Fl D := match inG x y M with
  | some b => .ok (.bl (!b)) M
  | none => .fail
section
variable {X : Cx} {K : PySem.W.Frag} {wd : World} {E : XK}
theorem op_inA (hu : X.A.units + 65 < cLine) : OpR X (compareOp .In) (fun x y H Q => MM.rInD X.K X.w x y H Q ∨ L2.rInD X.K x y H Q) := OpR.or (op_inDct (by omega)) (L2.op_inD hu)
theorem op_ninA (hu : X.A.units + 65 < cLine) : OpR X (compareOp .NotIn) (fun x y H Q => MM.rNinD X.K X.w x y H Q ∨ L2.rNotInD X.K x y H Q) := OpR.or (op_ninDct (by omega)) (L2.op_notInD hu)
theorem inG_ok {Fz H : Hp} {ι : Nat → Addr} {M : Mem} {a b : D} {x y : V} {k : Bool} (R : Rel K wd Fz H ι M) (ra : RepV K Fz ι a x) (rb : RepV K Fz ι b y) (h : inG a b M = some k) :
    (∃ p es nk, y = .ref p ∧ DctAt K wd H p es ∧ KeyV K H nk x ∧ nk.depth ≤ 8 ∧ (valE es nk).isSome = k) ∨ ∃ d ds, Dp K H x d ∧ Dp K H y (.list ds) ∧ SeqAt.shaped d = true ∧ SeqAt.shaped (.list ds) = true ∧ (ds.any fun z => PyData.eqv z d) = k := by
  unfold inG at h
  cases e : dctD M b with
  | some l =>
    rw [e] at h
    dsimp only at h
    split at h
    · rename_i hk
      have h := Option.some.inj h
      obtain ⟨nk, k1, k2⟩ := keyB_of hk
      obtain ⟨k0, es, rfl, rfl, hd, r, bl, _⟩ := dctD_at R rb e
      refine .inl ⟨ι k0, es, nk, rfl, hd, keyV_of R.fz a nk x k1 ra, k2, ?_⟩
      have g := repE_get k1 bl r
      rw [← h]
      cases e2 : getK l a with
      | none => rw [g.1 e2]; rfl
      | some d =>
        obtain ⟨_, v, hv, _⟩ := g.2 d e2
        rw [hv]
        rfl
    · cases h
  | none =>
    rw [e] at h
    dsimp only at h
    split at h
    · rename_i p ds e1 e2
      split at h
      · rename_i hs
        have h := Option.some.inj h
        exact .inr ⟨p, ds, view_dp R ra e1, view_dp R rb e2, hs.1, hs.2, h⟩
      · cases h
    · cases h
theorem os_in : OpS K wd E (fun x y H Q => MM.rInD K wd x y H Q ∨ L2.rInD K x y H Q) inA := by
  intro Fz H ι M a b x y Q R ba bb ra rb q
  unfold inA at q
  cases e : inG a b M with
  | none => rw [e] at q; exact q.elim
  | some k =>
    rw [e] at q
    rcases inG_ok R ra rb e with ⟨p, es, nk, rfl, h1, h2, h3, h4⟩ | ⟨d, ds, h1, h2, h3, h4, h5⟩
    · exact .inl ⟨p, es, nk, rfl, h1, h2, h3, by rw [h4]; exact q.now R ⟨trivial, rfl⟩⟩
    · exact .inr ⟨d, ds, h1, h2, h3, h4, by rw [h5]; exact q.now R ⟨trivial, rfl⟩⟩
theorem os_nin : OpS K wd E (fun x y H Q => MM.rNinD K wd x y H Q ∨ L2.rNotInD K x y H Q) ninA := by
  intro Fz H ι M a b x y Q R ba bb ra rb q
  unfold ninA at q
  cases e : inG a b M with
  | none => rw [e] at q; exact q.elim
  | some k =>
    rw [e] at q
    rcases inG_ok R ra rb e with ⟨p, es, nk, rfl, h1, h2, h3, h4⟩ | ⟨d, ds, h1, h2, h3, h4, h5⟩
    · exact .inl ⟨p, es, nk, rfl, h1, h2, h3, by rw [h4]; exact q.now R ⟨trivial, rfl⟩⟩
    · exact .inr ⟨d, ds, h1, h2, h3, h4, by rw [h5]; exact q.now R ⟨trivial, rfl⟩⟩
end

/-! ### slices, of tuples too -/
def eSlA (fe : EF) (fl fh : OF) : EF := fun ρ M => (fe ρ M).bind fun d M1 => (fl ρ M1).bind fun l M2 => (fh ρ M2).bind fun h M3 => match d with
  | .str z => if z.length ≤ 1000000 then .ok (.str (cutS z l h)) M3 else .fail
  | .tup xs => .ok (.tup (cutL xs l h)) M3
  | d => match itemsD M3 d with
    | some xs => .ok (.lst (cutL xs l h)) M3
    | none => .fail
section
variable {X : Cx} {E : XK} {K : PySem.W.Frag} {wd : World} {e : Expr} {fe : EF} {fl fh : OF} {lo hi : Option Expr} {pos p2 : Pos}
theorem cut_whole {α : Type} (xs : List α) (lo hi : Option Int) (h : HT.sIx xs.length 0 lo = 0 ∧ HT.sIx xs.length xs.length hi = xs.length) : (xs.drop (HT.sIx xs.length 0 lo)).take (HT.sIx xs.length xs.length hi - HT.sIx xs.length 0 lo) = xs := by
  rw [h.1, h.2]
  simp
theorem sl_anyA : SlR X (fun x lo hi H Q => MM.rSlA X.K x lo hi H Q ∨ L2.rSlA X.K x lo hi H Q) := SlR.or sl_any sl_tupA
theorem xe_slA (he : XE X E e fe) (hl : PO X lo (wO X.K X.w E fl)) (hh : PO X hi (wO X.K X.w E fh)) : XE X E (.Subscript e (.Slice lo hi none p2) pos) (eSlA fe fl fh) := (pe_slice sl_anyA he hl hh).imp (by
  rintro σ H Q ⟨Fz, ι, M, ρ, S, q⟩
  refine ⟨Fz, ι, M, ρ, S, q.first fun d M1 Fz1 H1 ι1 x g1 R1 rd q1 => ?_⟩
  refine ⟨Fz1, ι1, M1, ρ, S.grow g1 R1, q1.first fun l M2 Fz2 H2 ι2 y g2 R2 ra q2 => ?_⟩
  refine ⟨Fz2, ι2, M2, ρ, S.grow (g1.trans g2) R2, q2.first fun h M3 Fz3 H3 ι3 z g3 R3 rb q3 => ?_⟩
  have ra : y = l := ra
  have rb : z = h := rb
  subst ra rb
  have rd3 := (g2.trans g3).rep rd.1 rd.2
  have bd3 := bnd.up (g2.trans g3).le d rd.1
  have seq : ∀ {xs}, itemsD M3 d = some xs → (¬ ∃ l', d = .tup l') → Post X.K X.w E Fz3 H3 ι3 M3.length (RD X.K) Q (.ok (.lst (cutL xs y z)) M3) → MM.rSlA X.K x y z H3 Q ∨ L2.rSlA X.K x y z H3 Q := fun {xs} e nt q => by
    obtain ⟨bl, p, ws, ex, _, rw, hl⟩ := items_ok R3 bd3 rd3 e
    rcases hl with hl | hl
    · exact absurd hl nt
    · refine .inl (.inl ⟨p, ws, ex, hl, fun p2 hp2 => ?_⟩)
      obtain ⟨R4, g4⟩ := R3.laid (o := .lst (cutV ws y z)) hp2
      have bc : bndL M3.length (cutL xs y z) := bndL_take (bndL_drop bl)
      exact q _ _ _ _ g4 R4 ⟨bc, p2, _, rfl, upd_same, g4.repL bc (rw.cut y z)⟩
  cases d with
  | str s =>
    dsimp only at q3
    split at q3
    · rename_i hz
      exact .inl (.inr ⟨s, rd3, small6 hz, q3.now R3 ⟨trivial, rfl⟩⟩)
    · exact q3.elim
  | tup l =>
    obtain ⟨p, ws, rfl, hs, rw⟩ := rd3
    refine .inr ⟨p, ws, rfl, SqT.up R3.fz hs, fun hw => ?_, fun _ p2 hp2 => ?_⟩
    · have hw2 : HT.sIx l.length 0 y = 0 ∧ HT.sIx l.length l.length z = l.length := by rw [rw.len]; exact hw
      have e : cutL l y z = l := cut_whole l y z hw2
      dsimp only at q3
      rw [e] at q3
      exact q3.now R3 ⟨bd3, p, ws, rfl, hs, rw⟩
    · obtain ⟨R4, g4⟩ := R3.laid (o := .tup (cutV ws y z)) hp2
      have bc : bndL M3.length (cutL l y z) := bndL_take (bndL_drop bd3)
      exact q3 _ _ _ _ g4 R4 ⟨bc, p2, _, rfl, .inl (.inl upd_same), g4.repL bc (rw.cut y z)⟩
  | lst l => exact seq (xs := l) rfl (fun ⟨_, z⟩ => by cases z) q3
  | scr l => exact seq (xs := l) rfl (fun ⟨_, z⟩ => by cases z) q3
  | ptr k =>
    dsimp only at q3
    cases e : itemsD M3 (.ptr k) with
    | none => rw [e] at q3; exact q3.elim
    | some xs => rw [e] at q3; exact seq e (fun ⟨_, z⟩ => by cases z) q3
  | _ => exact q3.elim)
end

/-! ### list(x) -/
def listA (P : Bool) (l : List D) (M : Mem) : Fl D := match l with
  | [a] => match itemsD M a with
    | some xs => newL P xs M
    | none => .fail
  | _ => .fail
section
variable {X : Cx} {K : PySem.W.Frag} {wd : World} {E : XK}
theorem cs_list (P : Bool) : CaS K wd E (fun xs H Q => ∃ p ys, xs = [.ref p] ∧ (SqL K H p ys ∨ SqT K H p ys) ∧ ∀ l, H l = none → Q (.ref l) (upd H l (.lst ys))) (listA P) := by
  intro Fz H ι M l vs Q R bl rl q
  unfold listA at q
  split at q
  · rename_i a
    obtain ⟨x, rfl, rx⟩ := rl.one
    split at q
    · rename_i xs e
      obtain ⟨bx, p, ws, rfl, hs, rw, _⟩ := items_ok R bl.1 rx e
      exact ⟨p, ws, rfl, hs, newL_post R bx rw q⟩
    · exact q.elim
  · exact q.elim
end

/-! ### sorted(x) -/
abbrev Tri := D × V × PyData
theorem each_of_vals {s : Shared} {X : Cx} {pins : List (Addr × Obj)} {σ : L2.St} {H : Hp} (I : Inv X pins σ H s) : ∀ {bs : List Tri} {us : List Value}, (∀ b ∈ bs, Dp X.K H b.2.1 b.2.2) → Vals (bs.map (·.2.1)) us →
    PySem.W.EachIs (fun u (b : Tri) => RelV b.2.1 u) us bs ∧ PySem.W.EachIs (fun u (b : Tri) => ∃ as, Reads s.heap u b.2.2 as) us bs
  | [], _, _, r => by
    cases r
    exact ⟨.nil, .nil⟩
  | b :: bs, _, h, r => by
    cases r with
    | cons r1 r2 =>
      obtain ⟨e1, e2⟩ := each_of_vals I (fun c hc => h c (by simp [hc])) r2
      exact ⟨.cons r1 e1, .cons (Dp.reads I _ _ _ (h b (by simp)) r1) e2⟩
theorem vals_of_each : ∀ {bs : List Tri} {us : List Value}, PySem.W.EachIs (fun u (b : Tri) => RelV b.2.1 u) us bs → Vals (bs.map (·.2.1)) us
  | _, _, .nil => .nil
  | _, _, .cons h t => .cons h (vals_of_each t)
def dle (a b : Tri) : Bool := PySem.W.dataLe false (fun c : Tri => c.2.2) a b
def rSortA (K : PySem.W.Frag) : List V → Hp → VK → Prop := fun vs H Q => ∃ (a : Addr) (bs : List Tri), vs = [.ref a] ∧ SqL K H a (bs.map (·.2.1)) ∧ (∀ b ∈ bs, Dp K H b.2.1 b.2.2) ∧ PySem.W.AllAlike (bs.map (·.2.2)) ∧ PySem.W.Sortable (bs.map (·.2.2)) ∧ (∀ b ∈ bs, b.2.2.depth ≤ 100) ∧ bs.length ≤ 1000000 ∧
  ∀ p, H p = none → Q (.ref p) (upd H p (.lst ((bs.mergeSort dle).map (·.2.1))))
theorem cr_sortA {X : Cx} (hu : X.A.units + 180 < cLine) : CallR X (.builtin "sorted") (rSortA X.K) := by
  intro pins s σ H vs us Q I r q
  obtain ⟨a, bs, rfl, hS, hd, hal, hk, h100, hl, q⟩ := q
  obtain ⟨u, rfl, rx⟩ := vals1 r
  cases rx
  obtain ⟨its, rv, pl, hz⟩ := I.list hS
  obtain ⟨e1, e2⟩ := each_of_vals I hd rv
  refine PySem.W.sorted_data (enc := fun c : Tri => c.2.2) pl.isList e1 e2 hal hk (by rw [sizeLine_eq]; omega) (fun b hb => by have := h100 b hb; omega) fun out hlen hout => ?_
  obtain ⟨c, hc⟩ := PyProof.Rows.sortedAll_at s.heap its out.toArray
  have kp : ∀ b o, s.heap.get? b = some o → (PyProof.Rows.sortedAll s.heap its out.toArray).get? b = some o := fun _ _ => PyProof.Rows.sortedAll_old
  have hml : (bs.mergeSort dle).length ≤ sizeLine := by rw [List.length_mergeSort, sizeLine_eq]; omega
  have rv2 : Vals ((bs.mergeSort dle).map (·.2.1)) out := vals_of_each hout
  refine ⟨.ref (s.heap.objs.size + 1), _, I.laid (a := s.heap.objs.size + 1) (o := .lst ((bs.mergeSort dle).map (·.2.1))) (t' := s.toks) kp (Nat.le_succ _) ⟨by rw [List.length_map]; exact hml, out, c, rv2, hc⟩, rfl, q _ (I.hok.fresh (Nat.le_succ _))⟩

section
variable {X : Cx} {pins : List (Addr × Obj)} {σ : L2.St} {H : Hp} {s : Shared}
mutual
theorem KeyV.reads (I : Inv X pins σ H s) : ∀ (k : NestedKey) (v : V) (u : Value), KeyV X.K H k v → RelV v u → Reads s.heap u k.data []
  | .none, v, u, h, r => by
    cases h
    obtain rfl : u = Value.none := r
    exact .none
  | .num i, v, u, h, r => by
    cases h
    obtain ⟨t, rfl⟩ := (show ∃ t, u = Value.int i t from r)
    exact .int i t
  | .text x, v, u, h, r => by
    cases h
    obtain ⟨t, rfl⟩ := (show ∃ t, u = Value.str x t from r)
    exact .str x t
  | .tup ks, v, u, h, r => by
    cases h with
    | tup hs hk =>
      obtain ⟨its, rl, pl, _⟩ := I.tuple hs
      obtain ⟨o, h1, h2, n, h3⟩ := pl
      cases (show u = Value.ref _ from r)
      exact .tuple h1 h2 h3 (by simpa using KeyVs.reads I ks _ its hk rl)
theorem KeyVs.reads (I : Inv X pins σ H s) : ∀ (ks : List NestedKey) (vs : List V) (us : List Value), KeyVs X.K H ks vs → Vals vs us → ReadsAll s.heap us (NestedKey.datas ks) []
  | [], vs, us, h, r => by
    cases h
    cases r
    exact .nil
  | k :: ks, vs, us, h, r => by
    cases h with
    | cons h1 h2 =>
      cases r with
      | cons r1 r2 => exact .cons (as := []) (bs := []) (KeyV.reads I k _ _ h1 r1) (KeyVs.reads I ks _ _ h2 r2)
end
end
end MM

/-! MMn: sorted(x) of lists and of dicts. -/
namespace MM
open PySem PySem.Spec PyProof.Rows L2

theorem each_keys {X : Cx} {pins : List (Addr × Obj)} {σ : L2.St} {H : Hp} {s : Shared} (I : Inv X pins σ H s) : ∀ {es : List EnV} {xs : List Ent} {bs : List Tri}, Paired EntR es xs → (∀ e ∈ es, KeyV X.K H e.1 e.2.1 ∧ e.1.depth ≤ 8) → bs.map (·.2.1) = es.map (·.2.1) → bs.map (·.2.2) = es.map (·.1.data) →
    PySem.W.EachIs (fun u (b : Tri) => RelV b.2.1 u) (xs.map (·.2.1)) bs ∧ PySem.W.EachIs (fun u (b : Tri) => Reads s.heap u b.2.2 []) (xs.map (·.2.1)) bs
  | _, _, [], .nil, _, _, _ => ⟨.nil, .nil⟩
  | _, _, _ :: _, .nil, _, h, _ => by simp at h
  | _, _, [], .cons _ _, _, h, _ => by simp at h
  | e :: es, x :: xs, b :: bs, .cons r t, hk, h1, h2 => by
    rw [List.map_cons, List.map_cons] at h1 h2
    injection h1 with a1 a2
    injection h2 with b1 b2
    obtain ⟨q1, q2⟩ := each_keys I t (fun c hc => hk c (by simp [hc])) a2 b2
    rw [List.map_cons]
    refine ⟨.cons (by rw [a1]; exact r.2.1) q1, .cons ?_ q2⟩
    rw [b1]
    exact KeyV.reads I _ _ _ (hk e (by simp)).1 r.2.1
def rSortK (K : PySem.W.Frag) (wd : World) : List V → Hp → VK → Prop := fun vs H Q => ∃ (a : Addr) (es : List EnV) (bs : List Tri), vs = [.ref a] ∧ DctAt K wd H a es ∧ bs.map (·.2.1) = es.map (·.2.1) ∧ bs.map (·.2.2) = es.map (·.1.data) ∧
  PySem.W.AllAlike (bs.map (·.2.2)) ∧ PySem.W.Sortable (bs.map (·.2.2)) ∧ (∀ b ∈ bs, b.2.2.depth ≤ 100) ∧ bs.length ≤ 1000000 ∧ ∀ p, H p = none → Q (.ref p) (upd H p (.lst ((bs.mergeSort dle).map (·.2.1))))
theorem sz_push (h : Heap) (o : Obj) : (h.push o).objs.size = h.objs.size + 1 := Heap.size_push _ _
theorem cr_sortK {X : Cx} (hu : X.A.units + 180 < cLine) (hcalm : X.calm = true) : CallR X (.builtin "sorted") (rSortK X.K X.w) := by
  intro pins s σ H vs us Q I r q
  obtain ⟨a, es, bs, rfl, hd, hb1, hb2, hal, hk, h100, hl, q⟩ := q
  obtain ⟨u, rfl, rx⟩ := vals1 r
  cases rx
  obtain ⟨xs, hm, lo, hsz, rp⟩ := hd.raw I
  obtain ⟨e1, e2⟩ := each_keys I rp hd.ky hb1 hb2
  obtain ⟨o, ds, ep, h1, h2, h3, h4, his, hn⟩ := id hm
  have hraw : s.heap.DictRaw a ds ep := ⟨o, h1, h2, h3⟩
  have hds : ds.size = xs.length := entA_size h4
  refine Calls.call_function_entry PyProof.Rows.kind_sorted PyProof.Rows.plain_sorted PyProof.Rows.entry_sorted (PyProof.Rows.args_sorted1 _) ?_
  unfold Builtin.«sorted»
  refine wpAny_bind (m := checkCount "sorted" 1 1 _) (wpAny_pure ?_)
  refine wpAny_bind (PySem.W.kdu_collect (A := X.A.in1) (KdlSrc.rawDict (es := ds) (ep := ep) lo) (I.ok.hd hcalm) hraw (by omega) fun h' tk acc hkp hacc => ?_)
  have hal2 : acc.toList.length = xs.length := by rw [Array.length_toList, hacc.1, hds]
  have hks : acc.toList = xs.map (·.2.1) := by
    refine List.ext_getElem? fun j => ?_
    by_cases hj : j < acc.toList.length
    · rw [List.getElem?_eq_getElem hj]
      obtain ⟨hi, ev⟩ := hacc.2 j acc.toList[j] (by rw [← Array.getElem?_toList, List.getElem?_eq_getElem hj])
      have ed := entA_at h4 j
      rw [Array.getElem?_eq_getElem hi] at ed
      rw [List.getElem?_map]
      cases ex : xs[j]? with
      | none => rw [ex] at ed; cases ed
      | some x =>
        rw [ex] at ed
        have ed2 : ds[j] = entA X.w x := Option.some.inj ed
        rw [ev, ed2]
        rfl
    · rw [List.getElem?_eq_none (by omega), List.getElem?_eq_none (by rw [List.length_map]; omega)]
  have I1 : Inv X pins σ H { s with heap := h', toks := tk } := I.kept hkp
  refine wpAny_bind (wpAny_newList ?_ (by rw [hal2]; exact hsz))
  have hoL : (h'.push (seqObj "list" acc.toList.toArray 0)).get? h'.objs.size = some (seqObj "list" acc.toList.toArray 0) := Heap.get?_push_size _ rfl
  show wpAny _ _ _ _ _ { s with heap := h'.push (seqObj "list" acc.toList.toArray 0), toks := tk }
  have kp2 : ∀ b o, s.heap.get? b = some o → (h'.push (seqObj "list" acc.toList.toArray 0)).get? b = some o := fun b o e => Heap.get?_push_of_some _ (hkp b o e)
  rw [← hks] at e1 e2
  refine wpAny_bind (wpAny_holding (PySem.W.list_sort_data (enc := fun c : Tri => c.2.2) hoL e1 (e2.mono fun u b z => ⟨[], PyProof.Rows.Reads.keeps kp2 z, by simp⟩) hal hk (by rw [sizeLine_eq]; omega) (fun b hb => by have := h100 b hb; show X.A.units + 1 + 1 + _ < cLine; omega) fun out hlen hout => ?_))
  obtain ⟨e', he'⟩ := PyProof.Rows.sortedHeap_at (vs := acc.toList) (out := out.toArray) hoL
  have rv2 : Vals ((bs.mergeSort dle).map (·.2.1)) out := vals_of_each hout
  refine wpAny_pure ⟨_, rfl, .ref h'.objs.size, upd H h'.objs.size (.lst ((bs.mergeSort dle).map (·.2.1))), I1.laid (t' := tk) (fun b u e => ?_) (Nat.le_refl _)
    (show ObjOk X.prog X.w _ _ _ (.lst _) from ⟨by rw [List.length_map, List.length_mergeSort, sizeLine_eq]; omega, out, e', rv2, he'⟩), rfl, q _ (I1.hok.fresh (Nat.le_refl _))⟩
  have hb : b < h'.objs.size := Heap.lt_size e
  rw [PyProof.Rows.sortedHeap_old (Nat.ne_of_lt hb) (by rw [sz_push]; exact Nat.lt_succ_of_lt hb)]
  exact Heap.get?_push_of_some _ e

/-! ### as data -/
/-- the sorted list of alike items -/
noncomputable def sortL (l : List D) : Option (List D) := open Classical in match toPyL l with
  | some ps => if PySem.W.AllAlike ps ∧ PySem.W.Sortable ps ∧ (∀ p ∈ ps, p.depth ≤ 100) ∧ l.length ≤ 1000000 then some (((l.zip ps).mergeSort (PySem.W.dataLe false (fun c : D × PyData => c.2))).map (·.1)) else none
  | none => none
noncomputable def sortA (P : Bool) (l : List D) (M : Mem) : Fl D := match l with
  | [a] => match dctD M a with
    | some kv => match sortL (kv.map (·.1)) with
      | some r => newL P r M
      | none => .fail
    | none => match a with
      | .tup _ => .fail
      | a => match itemsD M a with
        | some xs => match sortL xs with
          | some r => newL P r M
          | none => .fail
        | none => .fail
  | _ => .fail
def tri : List D → List V → List PyData → List Tri
  | d :: l, v :: vs, p :: ps => (d, v, p) :: tri l vs ps
  | _, _, _ => []
theorem tri_d : ∀ {l : List D} {vs : List V} {ps : List PyData}, l.length = vs.length → l.length = ps.length → (tri l vs ps).map (fun b => (b.1, b.2.2)) = l.zip ps ∧ (tri l vs ps).map (·.2.1) = vs ∧ (tri l vs ps).map (·.2.2) = ps ∧ (tri l vs ps).map (·.1) = l
  | [], [], [], _, _ => ⟨rfl, rfl, rfl, rfl⟩
  | d :: l, v :: vs, p :: ps, h1, h2 => by
    obtain ⟨a, b, c, e⟩ := tri_d (l := l) (vs := vs) (ps := ps) (by simpa using h1) (by simpa using h2)
    unfold tri
    rw [List.map_cons, List.map_cons, List.map_cons, List.map_cons, a, b, c, e]
    exact ⟨rfl, rfl, rfl, rfl⟩
  | [], _ :: _, _, h, _ => by cases h
  | [], [], _ :: _, _, h => by cases h
  | _ :: _, [], _, h, _ => by cases h
  | _ :: _, _ :: _, [], _, h => by cases h
theorem toPyL_len : ∀ {l : List D} {ps : List PyData}, toPyL l = some ps → l.length = ps.length
  | [], _, e => by cases e; rfl
  | d :: l, _, e => by
    rw [toPyL] at e
    cases h : toPy d with
    | none => rw [h] at e; cases e
    | some p =>
      cases h2 : toPyL l with
      | none => rw [h, h2] at e; cases e
      | some r =>
        rw [h, h2] at e
        cases e
        rw [List.length_cons, List.length_cons, toPyL_len h2]
theorem dpAll_mem {K : PySem.W.Frag} {H : Hp} : ∀ {l : List D} {vs : List V} {ps : List PyData}, DpAll K H vs ps → l.length = vs.length → ∀ b ∈ tri l vs ps, Dp K H b.2.1 b.2.2
  | [], _, _, _, _ => fun b hb => nomatch hb
  | d :: l, _, _, .nil, h => by cases h
  | d :: l, _, _, .cons h1 h2, h => by
    intro b hb
    unfold tri at hb
    rcases List.mem_cons.mp hb with rfl | hb
    · exact h1
    · exact dpAll_mem h2 (by simpa using h) b hb
theorem tri_sort {l : List D} {vs : List V} {ps : List PyData} {r : List D} (h1 : l.length = vs.length) (h2 : l.length = ps.length) (hr : ((l.zip ps).mergeSort (PySem.W.dataLe false (fun c : D × PyData => c.2))).map (·.1) = r) : ((tri l vs ps).mergeSort dle).map (·.1) = r := by
  have e : ((tri l vs ps).mergeSort dle).map (fun b => (b.1, b.2.2)) = (l.zip ps).mergeSort (PySem.W.dataLe false (fun c : D × PyData => c.2)) := by
    rw [← (tri_d h1 h2).1]
    exact PySem.W.sort_maps (fun b : Tri => (b.1, b.2.2)) fun a _ b _ => rfl
  rw [← hr, ← e, List.map_map]
  rfl
theorem repL_tri {K : PySem.W.Frag} {Fz : Hp} {ι : Nat → Addr} : ∀ {bs : List Tri}, (∀ b ∈ bs, RepV K Fz ι b.1 b.2.1) → RepL K Fz ι (bs.map (·.1)) (bs.map (·.2.1))
  | [], _ => rfl
  | b :: bs, h => ⟨_, _, rfl, h b (by simp), repL_tri fun c hc => h c (by simp [hc])⟩
theorem tri_rep {K : PySem.W.Frag} {Fz : Hp} {ι : Nat → Addr} : ∀ {l : List D} {vs : List V} {ps : List PyData}, RepL K Fz ι l vs → ∀ b ∈ tri l vs ps, RepV K Fz ι b.1 b.2.1
  | [], _, _, _ => fun b hb => nomatch hb
  | d :: l, _, [], r => fun b hb => by
    obtain ⟨v, r', rfl, _, _⟩ := r
    unfold tri at hb
    cases hb
  | d :: l, _, p :: ps, r => by
    obtain ⟨v, r', rfl, q1, q2⟩ := r
    intro b hb
    unfold tri at hb
    rcases List.mem_cons.mp hb with rfl | hb
    · exact q1
    · exact tri_rep q2 b hb
theorem sortL_mem {l r : List D} (h : sortL l = some r) : ∀ d ∈ r, d ∈ l := by
  unfold sortL at h
  split at h
  · split at h
    · cases h
      intro d hd
      obtain ⟨c, hc, rfl⟩ := List.mem_map.mp hd
      exact (List.of_mem_zip (List.mem_mergeSort.mp hc)).1
    · cases h
  · cases h
mutual
theorem keyOf_py : ∀ (d : D) (k : NestedKey), keyOf d = some k → toPy d = some k.data
  | .non, k, e => by cases e; rfl
  | .int i, k, e => by cases e; rfl
  | .str x, k, e => by cases e; rfl
  | .tup l, k, e => by
    rw [keyOf] at e
    cases h : keysOf l with
    | none => rw [h] at e; cases e
    | some ks =>
      rw [h] at e
      cases e
      rw [toPy, keysOf_py l ks h]
      rfl
  | .bl _, k, e => by simp [keyOf] at e
  | .lst _, k, e => by simp [keyOf] at e
  | .scr _, k, e => by simp [keyOf] at e
  | .ptr _, k, e => by simp [keyOf] at e
theorem keysOf_py : ∀ (l : List D) (ks : List NestedKey), keysOf l = some ks → toPyL l = some (NestedKey.datas ks)
  | [], ks, e => by cases e; rfl
  | d :: l, ks, e => by
    rw [keysOf] at e
    cases h : keyOf d with
    | none => rw [h] at e; cases e
    | some k =>
      rw [h] at e
      cases h2 : keysOf l with
      | none => rw [h2] at e; cases e
      | some r =>
        rw [h2] at e
        cases e
        rw [toPyL, keyOf_py d k h, keysOf_py l r h2]
        rfl
end
theorem repE_split {K : PySem.W.Frag} {Fz : Hp} {ι : Nat → Addr} : ∀ {l : List (D × D)} {es : List EnV}, RepE K Fz ι l es → RepL K Fz ι (l.map (·.1)) (es.map (·.2.1)) ∧ toPyL (l.map (·.1)) = some (es.map (·.1.data))
  | [], _, r => by
    obtain rfl : _ = [] := r
    exact ⟨rfl, rfl⟩
  | (g, x) :: l, _, r => by
    obtain ⟨nk, y, z, r', rfl, e1, e2, q1, q2, q3⟩ := r
    obtain ⟨a, b⟩ := repE_split q3
    refine ⟨⟨y, _, rfl, q1, a⟩, ?_⟩
    rw [List.map_cons, toPyL, keyOf_py g nk e1, b]
    rfl
theorem repE_kbnd {K : PySem.W.Frag} {Fz : Hp} {ι : Nat → Addr} {n : Nat} : ∀ {l : List (D × D)} {es : List EnV}, RepE K Fz ι l es → bndL n (l.map (·.1))
  | [], _, _ => trivial
  | (g, x) :: l, _, r => by
    obtain ⟨nk, y, z, r', rfl, e1, e2, q1, q2, q3⟩ := r
    exact ⟨key_bnd g nk e1, repE_kbnd q3⟩
section
variable {X : Cx} {K : PySem.W.Frag} {wd : World} {E : XK}
theorem cr_sort (hu : X.A.units + 180 < cLine) (hcalm : X.calm = true) : CallR X (.builtin "sorted") (fun vs H Q => rSortK X.K X.w vs H Q ∨ rSortA X.K vs H Q) := by
  intro pins s σ H vs us Q I r q
  rcases q with q | q
  · exact cr_sortK hu hcalm pins s σ H vs us Q I r q
  · exact cr_sortA hu pins s σ H vs us Q I r q
theorem cs_sort (P : Bool) : CaS K wd E (fun vs H Q => rSortK K wd vs H Q ∨ rSortA K vs H Q) (sortA P) := by
  intro Fz H ι M l vs Q R bl rl q
  unfold sortA at q
  split at q
  · rename_i a
    obtain ⟨x, rfl, rx⟩ := rl.one
    split at q
    · rename_i kv hkv
      obtain ⟨k, es, rfl, rfl, hd, r, blx, _⟩ := dctD_at R rx hkv
      obtain ⟨ra, rb⟩ := repE_split r
      split at q
      · rename_i sr hs
        have hmem := sortL_mem hs
        unfold sortL at hs
        rw [rb] at hs
        dsimp only at hs
        split at hs
        · rename_i hc
          have hs := Option.some.inj hs
          have hl2 := toPyL_len rb
          have hl1 := ra.len
          obtain ⟨t1, t2, t3, t4⟩ := tri_d (vs := es.map (·.2.1)) hl1 hl2
          have tlen : (tri (kv.map (·.1)) (es.map (·.2.1)) (es.map (·.1.data))).length = (kv.map (·.1)).length := by
            have z := congrArg List.length t4
            rwa [List.length_map] at z
          refine .inl ⟨ι k, es, tri (kv.map (·.1)) (es.map (·.2.1)) (es.map (·.1.data)), rfl, hd, t2, t3, by rw [t3]; exact hc.1, by rw [t3]; exact hc.2.1, fun b hb => hc.2.2.1 _ ?_, by rw [tlen]; exact hc.2.2.2, ?_⟩
          · rw [← t3]
            exact List.mem_map.mpr ⟨b, hb, rfl⟩
          · have rs := repL_tri (bs := (tri (kv.map (·.1)) (es.map (·.2.1)) (es.map (·.1.data))).mergeSort dle) fun b hb => tri_rep ra b (List.mem_mergeSort.mp hb)
            rw [tri_sort hl1 hl2 hs] at rs
            exact newL_post R (bndL_iff.mpr fun d hd2 => bndL_iff.mp (repE_kbnd r) d (hmem d hd2)) rs q
        · cases hs
      · exact q.elim
    · rename_i hkv
      have gen : (¬ ∃ t, a = .tup t) → Post K wd E Fz H ι M.length (RD K) Q (match itemsD M a with
        | some xs => match sortL xs with
          | some r => newL P r M
          | none => .fail
        | none => .fail) → rSortK K wd [x] H Q ∨ rSortA K [x] H Q := fun nt q => by
        split at q
        · rename_i xs hi
          obtain ⟨bx, p, ws, rfl, hsq, rw, hl⟩ := items_ok R bl.1 rx hi
          have hS : SqL K H p ws := by
            rcases hl with hl | hl
            · exact absurd hl nt
            · exact hl
          split at q
          · rename_i sr hs
            have hmem := sortL_mem hs
            unfold sortL at hs
            cases hp : toPyL xs with
            | none => rw [hp] at hs; cases hs
            | some ps =>
              rw [hp] at hs
              dsimp only at hs
              split at hs
              · rename_i hc
                have hs := Option.some.inj hs
                have hl2 := toPyL_len hp
                have hl1 := rw.len
                obtain ⟨t1, t2, t3, t4⟩ := tri_d (vs := ws) hl1 hl2
                have tlen : (tri xs ws ps).length = xs.length := by
                  have z := congrArg List.length t4
                  rwa [List.length_map] at z
                refine .inr ⟨p, tri xs ws ps, rfl, by rw [t2]; exact hS, dpAll_mem (toPyL_dp R.fz xs ps ws hp rw) hl1, by rw [t3]; exact hc.1, by rw [t3]; exact hc.2.1, fun b hb => hc.2.2.1 _ ?_, by rw [tlen]; exact hc.2.2.2, ?_⟩
                · rw [← t3]
                  exact List.mem_map.mpr ⟨b, hb, rfl⟩
                · have rs := repL_tri (bs := (tri xs ws ps).mergeSort dle) fun b hb => tri_rep rw b (List.mem_mergeSort.mp hb)
                  rw [tri_sort hl1 hl2 hs] at rs
                  exact newL_post R (bndL_iff.mpr fun d hd2 => bndL_iff.mp bx d (hmem d hd2)) rs q
              · cases hs
          · exact q.elim
        · exact q.elim
      split at q
      · exact q.elim
      · rename_i nt
        exact gen (fun ⟨t, e⟩ => nt t e) q
  · exact q.elim
end
end MM

/-! MMo: walks over lists and tuples alike. -/
namespace MM
open PySem PySem.Spec PyProof.Rows L2

def iAny (K : PySem.W.Frag) (tl : TE) : TI := fun σ H R => tl σ H fun x H1 => ∃ a, x = .ref a ∧ (((∃ xs, SqL K H1 a xs) ∧ R (Itl K a) H1) ∨ ((∃ xs, SqT K H1 a xs) ∧ R (Itt K a) H1))
section
variable {X : Cx} {tg : Expr}
theorem pi_any {l : Expr} {tl : TE} (hl : PE X l tl) : PI X tg l (iAny X.K tl) := by
  refine ⟨fun pins s σ H R I h => ?_⟩
  refine thn (hl.run pins s σ H _ I h) fun v s1 ⟨x, H1, I1, r1, a, e, q⟩ => ?_
  subst e
  cases r1
  have own : ∀ b ∈ [s1.heap.objs.size], FpOk X pins H1 b := fun b hb => by
    have e : b = s1.heap.objs.size := by simpa using hb
    subst e
    exact I1.fpOk (Nat.le_refl _) (I1.hok.fresh (Nat.le_refl _))
  rcases q with ⟨⟨xs, hq⟩, q⟩ | ⟨⟨xs, hq⟩, q⟩
  · obtain ⟨its, rv, p, hz⟩ := I1.list hq
    refine wpAny_pyIter_list p.isList ?_
    exact ⟨s1.heap.objs.size, [s1.heap.objs.size], _, _, H1, rfl, I1.kept (t' := s1.toks) fun b o e => Heap.get?_push_of_some _ e, turn_list a _, ⟨_, Heap.get?_push_size _ rfl, rfl, rfl⟩, own, q⟩
  · obtain ⟨its, rv, p, hz⟩ := I1.tuple hq
    refine wpAny_pyIter_tuple (show s1.heap.IsTuple a its.toArray from p) ?_
    exact ⟨s1.heap.objs.size, [s1.heap.objs.size], _, _, H1, rfl, I1.kept (t' := s1.toks) fun b o e => Heap.get?_push_of_some _ e, turn_tuple a _, ⟨_, Heap.get?_push_size _ rfl, rfl, rfl⟩, own, q⟩
end
def iA (f : EF) : IF := fun ρ M => (f ρ M).bind fun d M1 => match d with
  | .tup l => .ok ⟨l, none⟩ M1
  | .lst l => .ok ⟨l, none⟩ M1
  | .scr l => .ok ⟨l, none⟩ M1
  | .ptr k => match M1[k]? with
    | some (.lst l) => .ok ⟨l, some k⟩ M1
    | _ => .fail
  | _ => .fail
section
variable {X : Cx} {E : XK} {tg e : Expr} {f : EF}
theorem xi_any (h : XE X E e f) : XI X E tg e (iA f) := (pi_any h).imp (by
  rintro σ H R ⟨Fz, ι, M, ρ, S, q⟩
  refine ⟨Fz, ι, M, ρ, S, q.first fun d M1 Fz1 H1 ι1 x g1 R1 ra q1 => ?_⟩
  cases d with
  | tup l =>
    obtain ⟨a, vs, ex, hs, rl⟩ := ra.2
    refine ⟨a, ex, .inr ⟨⟨vs, SqT.up R1.fz hs⟩, q1.now R1 ⟨ra.1, fun Fz2 H2 ι2 M2 h1 h2 h3 R2 _ => ?_⟩⟩⟩
    have hs2 : SqT X.K H2 a vs := SqT.up R2.fz (SqT.up h1 hs)
    have rl2 : RepL X.K Fz2 ι2 l vs := RepL.up h1 h2 l vs ra.1 rl
    refine ⟨fun i d e => ?_, ⟨vs, hs2, by rw [rl.len]; exact Nat.le_refl _⟩⟩
    obtain ⟨v, hv, rv⟩ := rl2.get e
    refine ⟨⟨vs, v, hs2, hv⟩, fun x H' y => ?_⟩
    obtain ⟨e1, y⟩ := y
    subst e1
    have e2 := (y vs hs2).symm.trans hv
    cases e2
    exact ⟨Fz2, Grow.refl _ _ _ _, R2, rv⟩
  | lst l =>
    obtain ⟨a, vs, ex, hs, rl⟩ := ra.2
    have hl : SqL X.K H1 a vs := SqL.of (R1.fz _ _ hs)
    exact ⟨a, ex, .inl ⟨⟨vs, hl⟩, q1.now R1 (it_list ra.1 fun Fz2 H2 ι2 M2 h1 h2 h3 R2 _ => ⟨vs, SqL.of (R2.fz _ _ (h1 _ _ hs)), RepL.up h1 h2 l vs ra.1 rl⟩)⟩⟩
  | scr l =>
    obtain ⟨a, vs, ex, hs, rl⟩ := ra.2
    exact ⟨a, ex, .inl ⟨⟨vs, SqL.up R1.fz hs⟩, q1.now R1 (it_list ra.1 fun Fz2 H2 ι2 M2 h1 h2 h3 R2 _ => ⟨vs, SqL.up R2.fz (SqL.up h1 hs), RepL.up h1 h2 l vs ra.1 rl⟩)⟩⟩
  | ptr k =>
    dsimp only at q1
    split at q1
    · rename_i l e
      obtain ⟨_, vs, e1, rl⟩ := R1.ob k _ e
      have ex : x = .ref (ι1 k) := ra.2
      refine ⟨ι1 k, ex, .inl ⟨⟨vs, SqL.of e1⟩, q1.now R1 (it_list (R1.wf k _ e) fun Fz2 H2 ι2 M2 h1 h2 h3 R2 ok => ?_)⟩⟩
      have ok : M2[k]? = some (.lst l) := ok
      obtain ⟨_, vs2, e2, rl2⟩ := R2.ob k _ ok
      rw [h2 k ra.1] at e2
      exact ⟨vs2, SqL.of e2, rl2⟩
    · exact q1.elim
  | _ => exact q1.elim)
end
end MM

/-! MMs: lemmas for reckoning with the functions of the layer: plain Lean, no program in sight. -/
namespace MM
open PySem PySem.Spec PyProof.Rows L2
@[simp] theorem bnd_non {n : Nat} : bnd n .non := trivial
@[simp] theorem bnd_bl {n : Nat} {b : Bool} : bnd n (.bl b) := trivial
@[simp] theorem bnd_int {n : Nat} {i : Int} : bnd n (.int i) := trivial
@[simp] theorem bnd_str {n : Nat} {x : Str} : bnd n (.str x) := trivial
@[simp] theorem bnd_tup {n : Nat} {l : List D} : bnd n (.tup l) ↔ bndL n l := Iff.rfl
@[simp] theorem bnd_lst {n : Nat} {l : List D} : bnd n (.lst l) ↔ bndL n l := Iff.rfl
@[simp] theorem bnd_scr {n : Nat} {l : List D} : bnd n (.scr l) ↔ bndL n l := Iff.rfl
@[simp] theorem bnd_ptr {n k : Nat} : bnd n (.ptr k) ↔ k < n := Iff.rfl
@[simp] theorem bndL_nil {n : Nat} : bndL n [] := trivial
@[simp] theorem bndL_cons {n : Nat} {d : D} {l : List D} : bndL n (d :: l) ↔ bnd n d ∧ bndL n l := Iff.rfl
@[simp] theorem bndL_app {n : Nat} {l m : List D} : bndL n (l ++ m) ↔ bndL n l ∧ bndL n m := bndL_append
@[simp] theorem bndL_mstr {n : Nat} {l : List Str} : bndL n (l.map D.str) := bndL_strs l
@[simp] theorem bndL_mint {n : Nat} {l : List Int} : bndL n (l.map D.int) := bndL_ints l
theorem fin_rt {d : D} {M : Mem} (h : bnd 0 d) : fin (.ok (.rt d) M) = .ok d := by
  unfold fin
  dsimp only
  rw [frz_b0 h]
theorem fin_ptr {k : Nat} {l : List D} {M : Mem} (e : M[k]? = some (.lst l)) (h : bndL 0 l) : fin (.ok (.rt (.ptr k)) M) = .ok (.lst l) := by
  unfold fin
  dsimp only
  rw [frz_ptr e h]
theorem fin_nx {ρ : Ro} {M : Mem} : fin (.ok (.nx ρ) M) = .ok .non := rfl

/-! ### loops -/
theorem forF_nx {it : Wk} {g : GF} {body : SF} (I : Nat → Ro → Mem → Prop) : ∀ (l : List D) (i : Nat) (ρ : Ro) (M : Mem),
    (∀ j d ρ M, l[j]? = some d → I (i + j) ρ M → it.ok M ∧ ∃ ρ1, g d ρ = some ρ1 ∧ ∃ ρ2 M2, (body ρ1 M = .ok (.nx ρ2) M2 ∨ body ρ1 M = .ok (.ct ρ2) M2) ∧ I (i + j + 1) ρ2 M2) →
    (∀ ρ M, I (i + l.length) ρ M → it.ok M) → I i ρ M → ∃ ρ' M', forF it g body l ρ M = .ok (.nx ρ') M' ∧ I (i + l.length) ρ' M'
  | [], i, ρ, M, _, he, h => by
    refine ⟨ρ, M, ?_, h⟩
    unfold forF
    rw [if_pos (he ρ M h)]
  | d :: l, i, ρ, M, hs, he, h => by
    obtain ⟨ok, ρ1, e1, ρ2, M2, e2, h2⟩ := hs 0 d ρ M rfl h
    obtain ⟨ρ', M', e3, h3⟩ := forF_nx I l (i + 1) ρ2 M2 (fun j d ρ M e h => by
      have := hs (j + 1) d ρ M (by simpa using e) (by rw [show i + (j + 1) = i + 1 + j by omega]; exact h)
      rw [show i + (j + 1) + 1 = i + 1 + j + 1 by omega] at this
      exact this) (fun ρ M h => he ρ M (by rw [List.length_cons, show i + (l.length + 1) = i + 1 + l.length by omega]; exact h)) h2
    refine ⟨ρ', M', ?_, by rw [List.length_cons, show i + (l.length + 1) = i + 1 + l.length by omega]; exact h3⟩
    unfold forF
    rw [if_pos ok, e1]
    rcases e2 with e2 | e2 <;> (dsimp only; rw [e2]; exact e3)
/-- a loop that goes through to its end -/
theorem sFor_nx {it : Wk} {g : GF} {body : SF} {fi : IF} {ρ : Ro} {M M0 : Mem} (I : Nat → Ro → Mem → Prop) (hi : fi ρ M0 = .ok it M)
    (hs : ∀ j d ρ M, it.items[j]? = some d → I j ρ M → it.ok M ∧ ∃ ρ1, g d ρ = some ρ1 ∧ ∃ ρ2 M2, (body ρ1 M = .ok (.nx ρ2) M2 ∨ body ρ1 M = .ok (.ct ρ2) M2) ∧ I (j + 1) ρ2 M2)
    (he : ∀ ρ M, I it.items.length ρ M → it.ok M) (h : I 0 ρ M) : ∃ ρ' M', sFor fi g body ρ M0 = .ok (.nx ρ') M' ∧ I it.items.length ρ' M' := by
  unfold sFor
  rw [hi, Fl.bind_ok]
  obtain ⟨ρ', M', e, h'⟩ := forF_nx I it.items 0 ρ M (fun j d ρ M e h => by simpa using hs j d ρ M e (by simpa using h)) (fun ρ M h => he ρ M (by simpa using h)) h
  exact ⟨ρ', M', e, by simpa using h'⟩
/-- .. of which a turn may return -/
theorem sFor_or {it : Wk} {g : GF} {body : SF} {fi : IF} {ρ : Ro} {M M0 : Mem} (I : Nat → Ro → Mem → Prop) (R : D → Mem → Prop) (hi : fi ρ M0 = .ok it M)
    (hs : ∀ j d ρ M, it.items[j]? = some d → I j ρ M → it.ok M ∧ ∃ ρ1, g d ρ = some ρ1 ∧ ((∃ ρ2 M2, (body ρ1 M = .ok (.nx ρ2) M2 ∨ body ρ1 M = .ok (.ct ρ2) M2) ∧ I (j + 1) ρ2 M2) ∨ ∃ d M2, body ρ1 M = .ok (.rt d) M2 ∧ R d M2))
    (he : ∀ ρ M, I it.items.length ρ M → it.ok M) (h : I 0 ρ M) : (∃ ρ' M', sFor fi g body ρ M0 = .ok (.nx ρ') M' ∧ I it.items.length ρ' M') ∨ ∃ d M', sFor fi g body ρ M0 = .ok (.rt d) M' ∧ R d M' := by
  unfold sFor
  rw [hi, Fl.bind_ok]
  have go : ∀ (l : List D) (i : Nat) (ρ : Ro) (M : Mem), it.items.drop i = l → i ≤ it.items.length → I i ρ M → (∃ ρ' M', forF it g body l ρ M = .ok (.nx ρ') M' ∧ I it.items.length ρ' M') ∨ ∃ d M', forF it g body l ρ M = .ok (.rt d) M' ∧ R d M' := by
    intro l
    induction l with
    | nil =>
      intro i ρ M el hi h
      have : i = it.items.length := by
        have := congrArg List.length el
        rw [List.length_drop] at this
        simp at this
        omega
      subst this
      refine .inl ⟨ρ, M, ?_, h⟩
      unfold forF
      rw [if_pos (he ρ M h)]
    | cons d l ih =>
      intro i ρ M el hi h
      have hd : it.items[i]? = some d := by
        have := congrArg (fun z => z[0]?) el
        simpa using this
      have hi2 : i < it.items.length := (List.getElem?_eq_some_iff.mp hd).1
      have el2 : it.items.drop (i + 1) = l := by
        have := congrArg List.tail el
        simpa using this
      obtain ⟨ok, ρ1, e1, hx⟩ := hs i d ρ M hd h
      unfold forF
      rw [if_pos ok, e1]
      rcases hx with ⟨ρ2, M2, e2, h2⟩ | ⟨d2, M2, e2, r⟩
      · rcases e2 with e2 | e2 <;> (dsimp only; rw [e2]; exact ih (i + 1) ρ2 M2 el2 hi2 h2)
      · refine .inr ⟨d2, M2, ?_, r⟩
        dsimp only
        rw [e2]
        rfl
  exact go it.items 0 ρ M (by simp) (Nat.zero_le _) h
theorem whileF_nx {c : BF} {f : SF} (I : Ro → Mem → Prop) (μ : Ro → Mem → Nat)
    (h : ∀ ρ M, I ρ M → ∃ b, c ρ M = .ok b M ∧ (b = true → ∃ ρ2 M2, (f ρ M = .ok (.nx ρ2) M2 ∨ f ρ M = .ok (.ct ρ2) M2) ∧ I ρ2 M2 ∧ μ ρ2 M2 < μ ρ M)) : ∀ (N : Nat) (ρ : Ro) (M : Mem), I ρ M → μ ρ M < N →
    ∃ ρ' M', whileF c f N ρ M = .ok (.nx ρ') M' ∧ I ρ' M' ∧ c ρ' M' = .ok false M' := by
  intro N
  induction N with
  | zero => intro ρ M _ hm; omega
  | succ N ih =>
    intro ρ M hI hm
    obtain ⟨b, hb, hs⟩ := h ρ M hI
    unfold whileF
    rw [hb, Fl.bind_ok]
    cases b with
    | false => exact ⟨ρ, M, by rw [if_neg Bool.false_ne_true], hI, hb⟩
    | true =>
      obtain ⟨ρ2, M2, e2, h2, hm2⟩ := hs rfl
      rw [if_pos rfl]
      obtain ⟨ρ', M', e3, h3⟩ := ih ρ2 M2 h2 (by omega)
      refine ⟨ρ', M', ?_, h3⟩
      rcases e2 with e2 | e2 <;> (rw [e2]; exact e3)
theorem sWhile_nx {c : BF} {f : SF} {N : Nat} {ρ : Ro} {M : Mem} (I : Ro → Mem → Prop) (μ : Ro → Mem → Nat)
    (h : ∀ ρ M, I ρ M → ∃ b, c ρ M = .ok b M ∧ (b = true → ∃ ρ2 M2, (f ρ M = .ok (.nx ρ2) M2 ∨ f ρ M = .ok (.ct ρ2) M2) ∧ I ρ2 M2 ∧ μ ρ2 M2 < μ ρ M)) (hI : I ρ M) (hm : μ ρ M < N) :
    ∃ ρ' M', sWhile N c f ρ M = .ok (.nx ρ') M' ∧ I ρ' M' ∧ c ρ' M' = .ok false M' := whileF_nx I μ h N ρ M hI hm
/-- a comprehension whose turns change nothing -/
theorem lcF_fm {it : Wk} {vs : List Nat} {g : GF} {ft : BF} {fe : EF} {ρ : Ro} {M : Mem} (v : D → Option D) (ok : it.ok M) : ∀ l : List D,
    (∀ d ∈ l, ∃ ρ1, g d (wipeR ρ vs) = some ρ1 ∧ ((∃ y, v d = some y ∧ ft ρ1 M = .ok true M ∧ fe ρ1 M = .ok y M) ∨ (v d = none ∧ ft ρ1 M = .ok false M))) → lcF it vs g ft fe l ρ M = .ok (l.filterMap v) M
  | [], _ => by
    unfold lcF
    rw [if_pos ok]
    rfl
  | d :: l, h => by
    obtain ⟨ρ1, e1, hx⟩ := h d List.mem_cons_self
    have ih := lcF_fm v ok l fun e he => h e (List.mem_cons_of_mem _ he)
    unfold lcF
    rw [if_pos ok, e1]
    dsimp only
    rcases hx with ⟨y, hv, h1, h2⟩ | ⟨hv, h1⟩
    · rw [h1, Fl.bind_ok, if_pos rfl, h2, Fl.bind_ok, ih, List.filterMap_cons, hv]
      rfl
    · rw [h1, Fl.bind_ok, if_neg Bool.false_ne_true, ih, List.filterMap_cons, hv]
theorem eLcF_fm {it : Wk} {fi : IF} {vs : List Nat} {g : GF} {ft : BF} {fe : EF} {ρ : Ro} {M M0 : Mem} (v : D → Option D) (hi : fi ρ M0 = .ok it M) (ok : it.ok M) (hz : it.items.length ≤ 1000000)
    (h : ∀ d ∈ it.items, ∃ ρ1, g d (wipeR ρ vs) = some ρ1 ∧ ((∃ y, v d = some y ∧ ft ρ1 M = .ok true M ∧ fe ρ1 M = .ok y M) ∨ (v d = none ∧ ft ρ1 M = .ok false M))) : eLcF fi vs g ft fe ρ M0 = .ok (.lst (it.items.filterMap v)) M := by
  unfold eLcF
  rw [hi, Fl.bind_ok, if_pos hz, lcF_fm v ok it.items h]
  rfl
theorem eLcF_map {it : Wk} {fi : IF} {vs : List Nat} {g : GF} {fe : EF} {ρ : Ro} {M M0 : Mem} (v : D → D) (hi : fi ρ M0 = .ok it M) (ok : it.ok M) (hz : it.items.length ≤ 1000000)
    (h : ∀ d ∈ it.items, ∃ ρ1, g d (wipeR ρ vs) = some ρ1 ∧ fe ρ1 M = .ok (v d) M) : eLcF fi vs g bYes fe ρ M0 = .ok (.lst (it.items.map v)) M := by
  rw [eLcF_fm (fun d => some (v d)) hi ok hz fun d hd => by
    obtain ⟨ρ1, a, b⟩ := h d hd
    exact ⟨ρ1, a, .inl ⟨v d, rfl, rfl, b⟩⟩]
  simp
@[simp] theorem rangeL_length (lo : Int) (n : Nat) : (rangeL lo n).length = n := by
  unfold rangeL
  rw [List.length_map, List.length_range]
theorem rangeL_get {lo : Int} {n i : Nat} {d : D} (h : (rangeL lo n)[i]? = some d) : i < n ∧ d = .int (lo + i) := by
  unfold rangeL at h
  rw [List.getElem?_map] at h
  cases e : (List.range n)[i]? with
  | none => rw [e] at h; cases h
  | some j =>
    rw [e] at h
    obtain ⟨h1, h2⟩ := List.getElem?_eq_some_iff.mp e
    rw [List.length_range] at h1
    rw [List.getElem_range] at h2
    subst h2
    exact ⟨h1, (Option.some.inj h).symm⟩
theorem rangeL_mem {lo : Int} {n : Nat} {d : D} (h : d ∈ rangeL lo n) : ∃ i : Nat, i < n ∧ d = .int (lo + i) := by
  obtain ⟨i, hi⟩ := List.getElem?_of_mem h
  exact ⟨i, rangeL_get hi⟩
theorem atI_nn {α : Type} {l : List α} {k : Nat} {d : α} (h : l[k]? = some d) : atI l (k : Int) = some d := atI_nat h
/-- the places that a function's reading is reckoned by -/
theorem seq_nx {f g : SF} {ρ ρ1 : Ro} {M M1 : Mem} (h : f ρ M = .ok (.nx ρ1) M1) : sSeq f g ρ M = g ρ1 M1 := by
  unfold sSeq
  rw [h]
  rfl
theorem seq_rt {f g : SF} {ρ : Ro} {d : D} {M M1 : Mem} (h : f ρ M = .ok (.rt d) M1) : sSeq f g ρ M = .ok (.rt d) M1 := by
  unfold sSeq
  rw [h]
  rfl
theorem set_ok {i : Nat} {f : EF} {ρ : Ro} {d : D} {M M1 : Mem} (h : f ρ M = .ok d M1) : sSet i f ρ M = .ok (.nx (ρ.set i (some d))) M1 := by
  unfold sSet
  rw [h]
  rfl
theorem if_ok {c : BF} {f g : SF} {ρ : Ro} {b : Bool} {M M1 : Mem} (h : c ρ M = .ok b M1) : sIf c f g ρ M = if b = true then f ρ M1 else g ρ M1 := by
  unfold sIf
  rw [h]
  rfl
theorem call_ok {m : Nat} {G : PF} {fa : AF} {ρ : Ro} {l : List D} {d : D} {M M1 : Mem} (h : fa ρ M = .ok l M1) (hm : l.length = m) (hb : bndL 0 l) (hG : G l = .ok d) (hd : bnd 0 d) : eCall m G fa ρ M = .ok d M1 := by
  unfold eCall
  rw [h, Fl.bind_ok, if_pos ⟨hm, hb⟩, hG]
  dsimp only
  rw [if_pos hd]
theorem acons_ok {fa : EF} {fr : AF} {ρ : Ro} {a : D} {l : List D} {M M1 M2 : Mem} (h1 : fa ρ M = .ok a M1) (h2 : fr ρ M1 = .ok l M2) : aCons fa fr ρ M = .ok (a :: l) M2 := by
  unfold aCons
  rw [h1, Fl.bind_ok, h2]
  rfl
theorem aone_ok {fa : EF} {ρ : Ro} {a : D} {M M1 : Mem} (h1 : fa ρ M = .ok a M1) : aCons fa aNil ρ M = .ok [a] M1 := acons_ok h1 rfl
theorem bin_ok {op : D → D → Mem → Fl D} {fa fb : EF} {ρ : Ro} {a b : D} {M M1 M2 : Mem} (h1 : fa ρ M = .ok a M1) (h2 : fb ρ M1 = .ok b M2) : eBin op fa fb ρ M = op a b M2 := by
  unfold eBin
  rw [h1, Fl.bind_ok, h2]
  rfl
theorem ca_ok {op : List D → Mem → Fl D} {fa : AF} {ρ : Ro} {l : List D} {M M1 : Mem} (h1 : fa ρ M = .ok l M1) : eCa op fa ρ M = op l M1 := by
  unfold eCa
  rw [h1]
  rfl
theorem ex_ok {f : EF} {ρ : Ro} {d : D} {M M1 : Mem} (h : f ρ M = .ok d M1) : sEx f ρ M = .ok (.nx ρ) M1 := by
  unfold sEx
  rw [h]
  rfl
theorem ret_ok {f : EF} {ρ : Ro} {d : D} {M M1 : Mem} (h : f ρ M = .ok d M1) : sRet f ρ M = .ok (.rt d) M1 := by
  unfold sRet
  rw [h]
  rfl
theorem bof_ok {f : EF} {ρ : Ro} {b : Bool} {M M1 : Mem} (h : f ρ M = .ok (.bl b) M1) : bOf f ρ M = .ok b M1 := by
  unfold bOf
  rw [h]
  rfl
theorem band_t {f g : BF} {ρ : Ro} {b : Bool} {M M1 M2 : Mem} (h : f ρ M = .ok true M1) (h2 : g ρ M1 = .ok b M2) : bAnd f g ρ M = .ok b M2 := by
  unfold bAnd
  rw [h, Fl.bind_ok, if_pos rfl, h2]
theorem band_f {f g : BF} {ρ : Ro} {M M1 : Mem} (h : f ρ M = .ok false M1) : bAnd f g ρ M = .ok false M1 := by
  unfold bAnd
  rw [h]
  rfl
theorem bor_f {f g : BF} {ρ : Ro} {b : Bool} {M M1 M2 : Mem} (h : f ρ M = .ok false M1) (h2 : g ρ M1 = .ok b M2) : bOr f g ρ M = .ok b M2 := by
  unfold bOr
  rw [h, Fl.bind_ok, if_neg Bool.false_ne_true, h2]
theorem bor_t {f g : BF} {ρ : Ro} {M M1 : Mem} (h : f ρ M = .ok true M1) : bOr f g ρ M = .ok true M1 := by
  unfold bOr
  rw [h]
  rfl
theorem bnot_ok {f : BF} {ρ : Ro} {b : Bool} {M M1 : Mem} (h : f ρ M = .ok b M1) : bNot f ρ M = .ok (!b) M1 := by
  unfold bNot
  rw [h]
  rfl
theorem eMt_ok {T : String} {op : D → List D → Mem → Fl D} {fo : EF} {fa : AF} {ρ : Ro} {M M1 M2 : Mem} {a : D} {l : List D} (h1 : fo ρ M = .ok a M1) (h2 : tyM T a M1) (h3 : fa ρ M1 = .ok l M2) : eMt T op fo fa ρ M = op a l M2 := by
  unfold eMt
  rw [h1, Fl.bind_ok, if_pos h2, h3, Fl.bind_ok]
theorem iR1_ok {fa : EF} {ρ : Ro} {j : Int} {M M1 : Mem} (h : fa ρ M = .ok (.int j) M1) (h1 : j < 1000000) (h2 : -1000000 < j) : iR1 fa ρ M = .ok ⟨rangeL 0 j.toNat, none⟩ M1 := by
  unfold iR1
  rw [h, Fl.bind_ok]
  dsimp only
  rw [if_pos ⟨h1, h2⟩]
theorem iR1_nat {fa : EF} {ρ : Ro} {n : Nat} {M M1 : Mem} (h : fa ρ M = .ok (.int (n : Nat)) M1) (h1 : n < 1000000) : iR1 fa ρ M = .ok ⟨rangeL 0 n, none⟩ M1 := by
  rw [iR1_ok h (by omega) (by omega), Int.toNat_natCast]
theorem iL_lst {fa : EF} {ρ : Ro} {l : List D} {M M1 : Mem} (h : fa ρ M = .ok (.lst l) M1) : iL fa ρ M = .ok ⟨l, none⟩ M1 := by
  unfold iL
  rw [h]
  rfl
theorem iL_scr {fa : EF} {ρ : Ro} {l : List D} {M M1 : Mem} (h : fa ρ M = .ok (.scr l) M1) : iL fa ρ M = .ok ⟨l, none⟩ M1 := by
  unfold iL
  rw [h]
  rfl
theorem iL_ptr {fa : EF} {ρ : Ro} {k : Nat} {l : List D} {M M1 : Mem} (h : fa ρ M = .ok (.ptr k) M1) (e : M1[k]? = some (.lst l)) : iL fa ρ M = .ok ⟨l, some k⟩ M1 := by
  unfold iL
  rw [h, Fl.bind_ok]
  dsimp only
  rw [e]
theorem len_var {i : Nat} {ρ : Ro} {l : List D} {M : Mem} (h : ρ[i]? = some (some (.lst l))) : eCa lenD (aCons (eVar i) aNil) ρ M = .ok (.int l.length) M := by
  refine (ca_ok (aone_ok (a := .lst l) (M1 := M) ?_)).trans rfl
  unfold eVar
  rw [h]
theorem var_ok {i : Nat} {ρ : Ro} {d : D} {M : Mem} (h : ρ[i]? = some (some d)) : eVar i ρ M = .ok d M := by
  unfold eVar
  rw [h]
theorem ix_lst {l : List D} {k : Nat} {d : D} {M : Mem} (h : l[k]? = some d) : ixD (.lst l) (.int (k : Nat)) M = .ok d M := by
  unfold ixD
  dsimp only [itemsD]
  rw [atI_nat h]
theorem ix_tup {l : List D} {k : Nat} {d : D} {M : Mem} (h : l[k]? = some d) : ixD (.tup l) (.int (k : Nat)) M = .ok d M := by
  unfold ixD
  dsimp only [itemsD]
  rw [atI_nat h]
theorem ix_ptr {l : List D} {j k : Nat} {d : D} {M : Mem} (e : M[j]? = some (.lst l)) (h : l[k]? = some d) : ixD (.ptr j) (.int (k : Nat)) M = .ok d M := by
  unfold ixD
  dsimp only [itemsD]
  rw [e]
  dsimp only
  rw [atI_nat h]
theorem app_ptr {k : Nat} {l : List D} {d : D} {M : Mem} (e : M[k]? = some (.lst l)) (h : l.length < 1000000) : appD (.ptr k) [d] M = .ok .non (M.set k (.lst (l ++ [d]))) := by
  unfold appD
  dsimp only
  rw [e]
  dsimp only
  rw [if_pos h]
theorem eLcP_map {it : Wk} {fi : IF} {vs : List Nat} {g : GF} {fe : EF} {ρ : Ro} {M M0 : Mem} (v : D → D) (hi : fi ρ M0 = .ok it M) (ok : it.ok M) (hz : it.items.length ≤ 1000000)
    (h : ∀ d ∈ it.items, ∃ ρ1, g d (wipeR ρ vs) = some ρ1 ∧ fe ρ1 M = .ok (v d) M) : eLcP fi vs g bYes fe ρ M0 = .ok (.ptr M.length) (M ++ [.lst (it.items.map v)]) := by
  unfold eLcP
  rw [hi, Fl.bind_ok, if_pos hz, lcF_fm (fun d => some (v d)) ok it.items fun d hd => by
    obtain ⟨ρ1, a, b⟩ := h d hd
    exact ⟨ρ1, a, .inl ⟨v d, rfl, rfl, b⟩⟩]
  simp
/-- .. each of whose turns makes one thing that may change -/
theorem lcF_alloc {l0 : List D} {vs : List Nat} {g : GF} {fe : EF} {ρ : Ro} (mo : MO) : ∀ (l : List D) (M : Mem), (∀ d ∈ l, ∃ ρ1, g d (wipeR ρ vs) = some ρ1 ∧ ∀ M, fe ρ1 M = .ok (.ptr M.length) (M ++ [mo])) →
    lcF ⟨l0, none⟩ vs g bYes fe l ρ M = .ok ((List.range l.length).map fun i => .ptr (M.length + i)) (M ++ List.replicate l.length mo)
  | [], M, _ => by
    unfold lcF
    rw [if_pos Wk.ok_none]
    simp
  | d :: l, M, h => by
    obtain ⟨ρ1, e1, e2⟩ := h d List.mem_cons_self
    unfold lcF
    rw [if_pos Wk.ok_none, e1]
    dsimp only
    rw [show bYes ρ1 M = .ok true M from rfl, Fl.bind_ok, if_pos rfl, e2, Fl.bind_ok, lcF_alloc mo l _ fun e he => h e (List.mem_cons_of_mem _ he), Fl.bind_ok, List.length_cons, List.range_succ_eq_map, List.replicate_succ]
    simp
    intro a _
    omega
theorem frzL_map {f : D → Option D} {h : D → D} : ∀ l : List D, (∀ d ∈ l, f d = some (h d)) → frzL f l = some (l.map h)
  | [], _ => rfl
  | d :: l, hh => by
    unfold frzL
    rw [hh d List.mem_cons_self, frzL_map l fun e he => hh e (List.mem_cons_of_mem _ he)]
    rfl
theorem eLcP_step {it : Wk} {fi : IF} {vs : List Nat} {g : GF} {ft : BF} {fe : EF} {ρ : Ro} {M M0 M2 : Mem} {ys : List D} (hi : fi ρ M0 = .ok it M) (hz : it.items.length ≤ 1000000) (h : lcF it vs g ft fe it.items ρ M = .ok ys M2) :
    eLcP fi vs g ft fe ρ M0 = .ok (.ptr M2.length) (M2 ++ [.lst ys]) := by
  unfold eLcP
  rw [hi, Fl.bind_ok, if_pos hz, h]
  rfl
theorem eLcF_step {it : Wk} {fi : IF} {vs : List Nat} {g : GF} {ft : BF} {fe : EF} {ρ : Ro} {M M0 M2 : Mem} {ys : List D} (hi : fi ρ M0 = .ok it M) (hz : it.items.length ≤ 1000000) (h : lcF it vs g ft fe it.items ρ M = .ok ys M2) :
    eLcF fi vs g ft fe ρ M0 = .ok (.lst ys) M2 := by
  unfold eLcF
  rw [hi, Fl.bind_ok, if_pos hz, h]
  rfl
theorem blt_ok {fa fb : EF} {ρ : Ro} {M M1 M2 : Mem} {i j : Int} {k : Bool} (h1 : fa ρ M = .ok (.int i) M1) (h2 : fb ρ M1 = .ok (.int j) M2) (h : decide (i < j) = k) : bOf (eBin ltD fa fb) ρ M = .ok k M2 := bof_ok ((bin_ok h1 h2).trans (by rw [← h]; rfl))
theorem bgt_ok {fa fb : EF} {ρ : Ro} {M M1 M2 : Mem} {i j : Int} {k : Bool} (h1 : fa ρ M = .ok (.int i) M1) (h2 : fb ρ M1 = .ok (.int j) M2) (h : decide (j < i) = k) : bOf (eBin gtD fa fb) ρ M = .ok k M2 := bof_ok ((bin_ok h1 h2).trans (by rw [← h]; rfl))
theorem beqI_ok {fa fb : EF} {ρ : Ro} {M M1 M2 : Mem} {i j : Int} {k : Bool} (h1 : fa ρ M = .ok (.int i) M1) (h2 : fb ρ M1 = .ok (.int j) M2) (h : decide (i = j) = k) : bOf (eBin eqD fa fb) ρ M = .ok k M2 := bof_ok ((bin_ok h1 h2).trans (by rw [← h]; rfl))
theorem beqS_ok {fa fb : EF} {ρ : Ro} {M M1 M2 : Mem} {i j : Str} {k : Bool} (h1 : fa ρ M = .ok (.str i) M1) (h2 : fb ρ M1 = .ok (.str j) M2) (h : decide (i = j) = k) : bOf (eBin eqD fa fb) ρ M = .ok k M2 := bof_ok ((bin_ok h1 h2).trans (by rw [← h]; rfl))
/-! ### == of lists of texts -/
@[simp] theorem toPyL_strs : ∀ l : List Str, toPyL (l.map .str) = some (l.map .str)
  | [] => rfl
  | x :: l => by
    show toPyL (D.str x :: l.map .str) = _
    unfold toPyL
    rw [toPyL_strs l]
    rfl
theorem shaped_strs {l : List Str} (h : ∀ x ∈ l, ∀ c ∈ x.cps.toList, c < 1114112) : SeqAt.shaped (.list (l.map .str)) = true := by
  have h1 : PyData.canLayAll0 (l.map PyData.str) = true := by
    induction l with
    | nil => rfl
    | cons x l ih =>
      rw [List.map_cons, PyData.canLayAll0.eq_2, ih fun y hy => h y (List.mem_cons_of_mem _ hy), PyData.canLay0.eq_4, Bool.and_true]
      unfold PyData.strOk
      rw [Array.all_eq_true_iff_forall_mem]
      intro c hc
      exact decide_eq_true (h x List.mem_cons_self c (Array.mem_toList_iff.mpr hc))
  have h2 : PyData.depthAll (l.map PyData.str) = 0 := by
    clear h h1
    induction l with
    | nil => rfl
    | cons x l ih =>
      rw [List.map_cons]
      unfold PyData.depthAll
      rw [ih]
      rfl
  unfold SeqAt.shaped
  rw [PyData.canLay0.eq_5, h1]
  have h3 : (PyData.list (l.map PyData.str)).depth = 1 := by
    unfold PyData.depth
    rw [h2]
  rw [h3]
  rfl
theorem eqv_strs : ∀ l m : List Str, PyData.eqvAll (l.map .str) (m.map .str) = decide (l = m)
  | [], [] => rfl
  | [], _ :: _ => rfl
  | _ :: _, [] => rfl
  | x :: l, y :: m => by
    show (PyData.eqv (.str x) (.str y) && PyData.eqvAll (l.map .str) (m.map .str)) = _
    rw [eqv_strs l m]
    show ((x == y) && _) = _
    by_cases h1 : x = y
    · by_cases h2 : l = m
      · simp [h1, h2]
      · simp [h1, h2]
    · simp [h1]
theorem eqD_strs {a b : D} {M : Mem} {l m : List Str} (ha : viewD M a = .lst (l.map .str)) (hb : viewD M b = .lst (m.map .str)) (hl : ∀ x ∈ l, ∀ c ∈ x.cps.toList, c < 1114112) (hm : ∀ x ∈ m, ∀ c ∈ x.cps.toList, c < 1114112) : eqG a b M = some (decide (l = m)) := by
  unfold eqG
  rw [ha, hb]
  have e : ∀ l : List Str, toPy (.lst (l.map .str)) = some (.list (l.map .str)) := fun l => by
    unfold toPy
    rw [toPyL_strs]
    rfl
  rw [e, e]
  dsimp only
  rw [if_pos ⟨shaped_strs hl, shaped_strs hm⟩]
  congr 1
  exact eqv_strs l m
end MM

/-! MMt: texts: split, join, replace by one sign. -/
namespace MM
open PySem PySem.Spec PyProof.Rows L2 TL
/-- cut at each s -/
def splS (s : Nat) : List Nat → List Nat → List (List Nat)
  | acc, [] => [acc]
  | acc, c :: r => if c = s then acc :: splS s [] r else splS s (acc ++ [c]) r
theorem splS_cons (s c : Nat) (r acc : List Nat) : splS s acc (c :: r) = if c = s then acc :: splS s [] r else splS s (acc ++ [c]) r := rfl
theorem spl_one (s : Nat) : ∀ (l acc : List Nat), spl [s] 0 acc l = splS s acc l
  | [], acc => spl_nil _ _ _
  | c :: r, acc => by
    unfold splS
    by_cases h : c = s
    · subst h
      rw [if_pos rfl, spl_hit (by unfold pre; simp), ← spl_one c r []]
      rfl
    · rw [if_neg h, spl_miss (by unfold pre; simpa using h), spl_one s r]
theorem split_one (x y : Str) (s : Nat) (hy : tl y = [s]) (hs : s < 256) : (Txt.split x y).map tl = splS s [] (tl x) := by
  rw [split_spl x y (by rw [hy]; exact fun z => by cases z) (kind_ok (by
    have : y.cps = #[s] := by
      have := congrArg List.toArray hy
      simpa [tl] using this
    rw [this]
    simp [hs])), hy, spl_one]
theorem splS_none (s : Nat) : ∀ (p acc : List Nat), s ∉ p → splS s acc p = [acc ++ p]
  | [], acc, _ => by simp [splS]
  | c :: r, acc, h => by
    rw [List.mem_cons, not_or] at h
    unfold splS
    rw [if_neg (Ne.symm h.1), splS_none s r _ h.2, List.append_assoc]
    rfl
theorem splS_hit (s : Nat) : ∀ (p acc r : List Nat), s ∉ p → splS s acc (p ++ s :: r) = (acc ++ p) :: splS s [] r
  | [], acc, r, _ => by simp [splS]
  | c :: p, acc, r, h => by
    rw [List.mem_cons, not_or] at h
    rw [List.cons_append, splS_cons]
    rw [if_neg (Ne.symm h.1), splS_hit s p _ r h.2, List.append_assoc]
    rfl
theorem splS_mem (s : Nat) : ∀ (l acc : List Nat) (p : List Nat), p ∈ splS s acc l → ∀ c ∈ p, c ∈ acc ∨ c ∈ l
  | [], acc, p, h, c, hc => by
    unfold splS at h
    rw [List.mem_singleton] at h
    exact .inl (h ▸ hc)
  | d :: r, acc, p, h, c, hc => by
    unfold splS at h
    split at h
    · rcases List.mem_cons.mp h with h | h
      · exact .inl (h ▸ hc)
      · rcases splS_mem s r [] p h c hc with h | h
        · cases h
        · exact .inr (List.mem_cons_of_mem _ h)
    · rcases splS_mem s r _ p h c hc with h | h
      · rcases List.mem_append.mp h with h | h
        · exact .inl h
        · exact .inr (by rw [List.mem_singleton] at h; rw [h]; exact List.mem_cons_self)
      · exact .inr (List.mem_cons_of_mem _ h)
theorem splS_len (s : Nat) : ∀ (l acc : List Nat), (splS s acc l).length ≤ l.length + 1
  | [], acc => by simp [splS]
  | d :: r, acc => by
    unfold splS
    split
    · rw [List.length_cons, List.length_cons]
      have := splS_len s r []
      omega
    · rw [List.length_cons]
      have := splS_len s r (acc ++ [d])
      omega
theorem join_tl (z : Str) : ∀ ps : List Str, tl (Txt.join z ps) = PySem.StrLaws.glueT (tl z) ps
  | [] => rfl
  | p :: r => PySem.StrLaws.glued_list z p r
theorem splS_glueL (s : Nat) : ∀ (ps : List Str) (acc : List Nat), (∀ p ∈ ps, s ∉ tl p) → splS s acc (PySem.StrLaws.glueL [s] ps) = acc :: ps.map tl
  | [], acc, _ => rfl
  | p :: r, acc, h => by
    show splS s acc ([s] ++ (tl p ++ PySem.StrLaws.glueL [s] r)) = _
    have e : splS s acc ([s] ++ (tl p ++ PySem.StrLaws.glueL [s] r)) = acc :: splS s [] (tl p ++ PySem.StrLaws.glueL [s] r) := splS_hit s [] acc _ (by simp) |>.trans (by simp)
    rw [e]
    have hp := h p List.mem_cons_self
    cases r with
    | nil => 
      rw [show PySem.StrLaws.glueL [s] [] = [] from rfl, List.append_nil, splS_none s _ _ hp]
      rfl
    | cons p2 r =>
      rw [show PySem.StrLaws.glueL [s] (p2 :: r) = s :: (tl p2 ++ PySem.StrLaws.glueL [s] r) from rfl, splS_hit s _ _ _ hp]
      have ih := splS_glueL s (p2 :: r) [] (fun q hq => h q (List.mem_cons_of_mem _ hq))
      rw [show PySem.StrLaws.glueL [s] (p2 :: r) = [] ++ s :: (tl p2 ++ PySem.StrLaws.glueL [s] r) from rfl, splS_hit s _ _ _ (by simp)] at ih
      simp only [List.nil_append] at ih ⊢
      have ih := List.tail_eq_of_cons_eq ih
      rw [ih]
      rfl
/-- parts joined are parted again -/
theorem split_join (y : Str) (s : Nat) (hy : tl y = [s]) (hs : s < 256) (ps : List Str) (h0 : ps ≠ []) (h : ∀ p ∈ ps, s ∉ tl p) : Txt.split (Txt.join y ps) y = ps := by
  refine map_tl_inj ?_
  rw [split_one _ y s hy hs, join_tl, hy]
  cases ps with
  | nil => exact absurd rfl h0
  | cons p r =>
    have hp := h p List.mem_cons_self
    cases r with
    | nil =>
      rw [show PySem.StrLaws.glueT [s] [p] = tl p ++ [] from rfl, List.append_nil, splS_none s _ _ hp]
      rfl
    | cons p2 r =>
      rw [show PySem.StrLaws.glueT [s] (p :: p2 :: r) = tl p ++ s :: (tl p2 ++ PySem.StrLaws.glueL [s] r) from rfl, splS_hit s _ _ _ hp]
      have ih := splS_glueL s (p2 :: r) [] (fun q hq => h q (List.mem_cons_of_mem _ hq))
      rw [show PySem.StrLaws.glueL [s] (p2 :: r) = [] ++ s :: (tl p2 ++ PySem.StrLaws.glueL [s] r) from rfl, splS_hit s _ _ _ (by simp)] at ih
      simp only [List.nil_append] at ih ⊢
      have ih := List.tail_eq_of_cons_eq ih
      rw [ih]
      rfl
theorem split_nil (y : Str) (s : Nat) (hy : tl y = [s]) (hs : s < 256) (x : Str) (hx : tl x = []) : Txt.split x y = [x] := by
  refine map_tl_inj ?_
  rw [split_one _ y s hy hs, hx]
  show [[]] = [tl x]
  rw [hx]
theorem glueT_mem (z : List Nat) : ∀ (ps : List Str) (c : Nat), c ∈ PySem.StrLaws.glueT z ps → c ∈ z ∨ ∃ p ∈ ps, c ∈ tl p := by
  have gl : ∀ (ps : List Str) (c : Nat), c ∈ PySem.StrLaws.glueL z ps → c ∈ z ∨ ∃ p ∈ ps, c ∈ tl p := by
    intro ps
    induction ps with
    | nil => intro c h; cases h
    | cons p r ih =>
      intro c h
      rcases List.mem_append.mp (show c ∈ z ++ (tl p ++ PySem.StrLaws.glueL z r) from h) with h | h
      · exact .inl h
      · rcases List.mem_append.mp h with h | h
        · exact .inr ⟨p, List.mem_cons_self, h⟩
        · rcases ih c h with h | ⟨q, hq, h⟩
          · exact .inl h
          · exact .inr ⟨q, List.mem_cons_of_mem _ hq, h⟩
  intro ps c h
  cases ps with
  | nil => cases h
  | cons p r =>
    rcases List.mem_append.mp (show c ∈ tl p ++ PySem.StrLaws.glueL z r from h) with h | h
    · exact .inr ⟨p, List.mem_cons_self, h⟩
    · rcases gl r c h with h | ⟨q, hq, h⟩
      · exact .inl h
      · exact .inr ⟨q, List.mem_cons_of_mem _ hq, h⟩
theorem glueT_len (z : List Nat) (B : Nat) : ∀ ps : List Str, (∀ p ∈ ps, p.length ≤ B) → (PySem.StrLaws.glueT z ps).length ≤ ps.length * (B + z.length) := by
  have gl : ∀ ps : List Str, (∀ p ∈ ps, p.length ≤ B) → (PySem.StrLaws.glueL z ps).length ≤ ps.length * (B + z.length) := by
    intro ps
    induction ps with
    | nil => intro _; exact Nat.zero_le _
    | cons p r ih =>
      intro h
      have h1 := h p List.mem_cons_self
      have h2 := ih fun q hq => h q (List.mem_cons_of_mem _ hq)
      show (z ++ (tl p ++ PySem.StrLaws.glueL z r)).length ≤ (r.length + 1) * (B + z.length)
      rw [List.length_append, List.length_append, Nat.succ_mul]
      rw [len_tl] at h1
      omega
  intro ps h
  cases ps with
  | nil => exact Nat.zero_le _
  | cons p r =>
    have h1 := h p List.mem_cons_self
    have h2 := gl r fun q hq => h q (List.mem_cons_of_mem _ hq)
    show (tl p ++ PySem.StrLaws.glueL z r).length ≤ (r.length + 1) * (B + z.length)
    rw [List.length_append, Nat.succ_mul]
    rw [len_tl] at h1
    omega
theorem sum_len {B : Nat} : ∀ ps : List Str, (∀ p ∈ ps, p.length ≤ B) → (ps.map (·.length)).sum ≤ ps.length * B
  | [], _ => Nat.zero_le _
  | p :: r, h => by
    have h1 := h p List.mem_cons_self
    have h2 := sum_len r fun q hq => h q (List.mem_cons_of_mem _ hq)
    rw [List.map_cons, List.sum_cons, List.length_cons, Nat.succ_mul]
    omega
theorem replL_mem (y z : List Nat) : ∀ (l : List Nat) (k : Nat) (c : Nat), c ∈ PySem.StrLaws.replS y z k l → c ∈ z ∨ c ∈ l
  | [], k, c, h => by
    unfold PySem.StrLaws.replS at h
    cases h
  | d :: r, 0, c, h => by
    unfold PySem.StrLaws.replS at h
    split at h
    · rcases List.mem_append.mp h with h | h
      · exact .inl h
      · exact (replL_mem y z r _ c h).imp id (List.mem_cons_of_mem _)
    · rcases List.mem_cons.mp h with h | h
      · exact .inr (h ▸ List.mem_cons_self)
      · exact (replL_mem y z r _ c h).imp id (List.mem_cons_of_mem _)
  | d :: r, k + 1, c, h => by
    unfold PySem.StrLaws.replS at h
    exact (replL_mem y z r _ c h).imp id (List.mem_cons_of_mem _)
theorem repl_mem {x y z : Str} (hy : 1 ≤ y.length) {c : Nat} (h : c ∈ tl (Txt.replace x y z)) : c ∈ tl z ∨ c ∈ tl x := by
  have e : tl (Txt.replace x y z) = PySem.StrLaws.replL (tl y) (tl z) (tl x) := PySem.StrLaws.replace_list hy
  rw [e] at h
  exact replL_mem _ _ _ _ _ h
theorem split_mem {x y : Str} {s : Nat} (hy : tl y = [s]) (hs : s < 256) {p : Str} (h : p ∈ Txt.split x y) {c : Nat} (hc : c ∈ tl p) : c ∈ tl x := by
  have e := split_one x y s hy hs
  have hp : tl p ∈ splS s [] (tl x) := by rw [← e]; exact List.mem_map.mpr ⟨p, h, rfl⟩
  rcases splS_mem s _ _ _ hp c hc with h | h
  · cases h
  · exact h
theorem split_len {x y : Str} {s : Nat} (hy : tl y = [s]) (hs : s < 256) : (Txt.split x y).length ≤ x.length + 1 := by
  have e := congrArg List.length (split_one x y s hy hs)
  rw [List.length_map] at e
  rw [e, len_tl]
  exact splS_len s _ _
/-- it doesn't begin with a sign that it has not -/
theorem starts_no {x y : Str} {s : Nat} (hy : tl y = [s]) (h : s ∉ tl x) : Txt.startswith x y = false := by
  have hy1 : y.length = 1 := by rw [len_tl, hy]; rfl
  cases e : Txt.startswith x y with
  | false => rfl
  | true =>
    unfold Txt.startswith at e
    rw [Bool.and_eq_true] at e
    have h0 : PySem.StrLaws.At x y x.length 0 := ⟨of_decide_eq_true e.1, e.2⟩
    have q := (at_iff (x := x) (y := y) (by rw [hy]; exact fun z => by cases z) 0).mp h0
    rw [hy, List.drop_zero] at q
    unfold pre at q
    have q := beq_iff_eq.mp q
    have : s ∈ (tl x).take 1 := by
      have : (tl x).take [s].length = [s] := q
      rw [show [s].length = 1 from rfl] at this
      rw [this]
      exact List.mem_singleton.mpr rfl
    exact absurd (List.mem_of_mem_take this) h
end MM

namespace MM.Law
open PySem PySem.Spec PyProof.Rows L2
noncomputable def B_lifted_tree (g_lifted_tree : PF) : SF :=
  (sSeq (sSet 1 (eCa lstP aNil))
    (sSeq (sFor (iA (eVar 0)) (gNm 2) (sSeq (sSet 3 (eBin ixA (eVar 2) (eC (.int 0))))
    (sSeq (sIf (bOf (eBin eqD (eVar 3) (eC (.str "if")))) (sSet 2 (eBin (addA false) (eSlA (eVar 2) oNo (oIx (eC (.int 3)))) (eCa tupD (aCons (eCall 1 g_lifted_tree (aCons (eBin ixA (eVar 2) (eC (.int 3))) aNil)) (aCons (eCall 1 g_lifted_tree (aCons (eBin ixA (eVar 2) (eC (.int 4))) aNil)) aNil))))) (sIf (bOf (eBin eqD (eVar 3) (eC (.str "while")))) (sSet 2 (eBin (addA false) (eSlA (eVar 2) oNo (oIx (eC (.int 3)))) (eCa tupD (aCons (eCall 1 g_lifted_tree (aCons (eBin ixA (eVar 2) (eC (.int 3))) aNil)) aNil)))) (sIf (bOf (eBin eqD (eVar 3) (eC (.str "def")))) (sSet 2 (eBin (addA false) (eSlA (eVar 2) oNo (oIx (eC (.int 5)))) (eCa tupD (aCons (eCall 1 g_lifted_tree (aCons (eBin ixA (eVar 2) (eC (.int 5))) aNil)) aNil)))) sNext)))
    (sEx (eMt "list" appD (eVar 1) (aCons (eCa tupD (aCons (eC (.int 1)) (aCons (eVar 2) aNil))) aNil))))))
    (sRet (eVar 1))))
def N_lifted_tree : List Str := ["tree", "found", "statement", "word"]
noncomputable def G_lifted_tree : Nat → PF
  | 0 => fun _ => .fail
  | n + 1 => fun ds => fin ((B_lifted_tree (G_lifted_tree n)) (startR N_lifted_tree ds) [])
noncomputable def B_mask_without : SF :=
  (sRet (eBin xorD (eVar 0) (eBin andD (eVar 0) (eVar 1))))
def N_mask_without : List Str := ["mask", "other"]
noncomputable def G_mask_without : PF := fun ds => fin (B_mask_without (startR N_mask_without ds) [])
noncomputable def B_NameLook_note (Cl : Nat → Addr)  : SF :=
  (sIf (bOf (eBin neD (eVar 1) (eC (.int 0)))) (sSeq (sSet 5 (eCa tupD (aCons (eVar 2) (aCons (eVar 3) (aCons (eVar 4) aNil)))))
    (sSetA (eFld [Cl 0] "faults" (eVar 0)) (eVar 5) (eBin orD (eMd getD (eFld [Cl 0] "faults" (eVar 0)) (aCons (eVar 5) (aCons (eC (.int 0)) aNil))) (eVar 1)))) sNext)
def N_NameLook_note : List Str := ["self", "mask", "at", "what", "name", "fault"]
noncomputable def G_NameLook_note (Cl : Nat → Addr) : MF := fun ds M => finM ((B_NameLook_note Cl) (startR N_NameLook_note ds) M)
noncomputable def B_law_cell_at : SF :=
  (sSeq (sIf (bOf (eBin ltD (eVar 1) (eCa lenD (aCons (eVar 0) aNil)))) (sRet (eBin ixA (eVar 0) (eVar 1))) sNext)
    (sRet (eC (.int 0))))
def N_law_cell_at : List Str := ["_law_script", "_law_k"]
noncomputable def G_law_cell_at : PF := fun ds => fin (B_law_cell_at (startR N_law_cell_at ds) [])
noncomputable def B_law_mixed : SF :=
  (sSeq (sSet 2 (eBin modD (eBin mulD (eBin (addA false) (eBin (addA false) (eVar 0) (eBin mulD (eC (.int 7919)) (eVar 1))) (eC (.int 1))) (eC (.int 48271))) (eC (.int 2147483647))))
    (sRet (eBin modD (eBin mulD (eVar 2) (eBin (addA false) (eBin divD (eVar 2) (eC (.int 1009))) (eC (.int 69621)))) (eC (.int 2147483647)))))
def N_law_mixed : List Str := ["_law_cell", "_law_k", "_law_number"]
noncomputable def G_law_mixed : PF := fun ds => fin (B_law_mixed (startR N_law_mixed ds) [])
noncomputable def B_law_word : SF :=
  (sSeq (sSet 1 (eC (.str "xyzuvwpqabcdefghijklmnorst")))
    (sSeq (sSet 2 (eC (.str "")))
    (sSeq (sFor (iR1 (eBin (addA false) (eC (.int 1)) (eBin modD (eVar 0) (eC (.int 8))))) (gNm 3) (sSet 2 (eBin (addA false) (eVar 2) (eBin ixA (eVar 1) (eBin modD (eBin divD (eVar 0) (eBin (addA false) (eC (.int 8)) (eBin mulD (eC (.int 25)) (eVar 3)))) (eC (.int 26)))))))
    (sRet (eVar 2)))))
def N_law_word : List Str := ["_law_number", "_law_some", "_law_word_here", "_law_k"]
noncomputable def G_law_word : PF := fun ds => fin (B_law_word (startR N_law_word ds) [])
noncomputable def B_law_reads (g_law_reads : PF) : SF :=
  (sSeq (sIf (bOf (eBin eqD (eBin ixA (eVar 0) (eC (.int 0))) (eC (.str "name")))) (sRet (eCa lstF (aCons (eBin ixA (eVar 0) (eC (.int 1))) aNil))) sNext)
    (sSeq (sSet 1 (eCa lstF aNil))
    (sSeq (sIf (bAnd (bOf (eBin neD (eBin ixA (eVar 0) (eC (.int 0))) (eC (.str "num")))) (bOf (eBin neD (eBin ixA (eVar 0) (eC (.int 0))) (eC (.str "truth"))))) (sFor (iA (eSlA (eVar 0) (oIx (eC (.int 1))) oNo)) (gNm 2) (sSet 1 (eBin (addA false) (eVar 1) (eCall 1 g_law_reads (aCons (eVar 2) aNil))))) sNext)
    (sRet (eVar 1)))))
def N_law_reads : List Str := ["_law_e", "_law_found", "_law_part"]
noncomputable def G_law_reads : Nat → PF
  | 0 => fun _ => .fail
  | n + 1 => fun ds => fin ((B_law_reads (G_law_reads n)) (startR N_law_reads ds) [])
noncomputable def B_law_opened : SF :=
  (sSeq (sSet 4 (eCa lstP aNil))
    (sIf (bOf (eBin eqD (eVar 1) (eC (.int 4)))) (sSeq (sSet 5 (eCa lstP aNil))
    (sSeq (sEx (eMt "list" appD (eBin ixA (eBin ixA (eVar 0) (eUn negD (eC (.int 1)))) (eC (.int 0))) (aCons (eCa tupD (aCons (eC (.str "if")) (aCons (eVar 2) (aCons (eVar 3) (aCons (eVar 4) (aCons (eVar 5) aNil)))))) aNil)))
    (sEx (eMt "list" appD (eVar 0) (aCons (eCa tupD (aCons (eVar 4) (aCons (eVar 5) aNil))) aNil))))) (sSeq (sEx (eMt "list" appD (eBin ixA (eBin ixA (eVar 0) (eUn negD (eC (.int 1)))) (eC (.int 0))) (aCons (eCa tupD (aCons (eC (.str "while")) (aCons (eVar 2) (aCons (eVar 3) (aCons (eVar 4) aNil))))) aNil)))
    (sEx (eMt "list" appD (eVar 0) (aCons (eCa tupD (aCons (eVar 4) (aCons (eC .non) aNil))) aNil))))))
def N_law_opened : List Str := ["_law_stack", "_law_form", "_law_at", "_law_e", "_law_block", "_law_other"]
noncomputable def G_law_opened : MF := fun ds M => finM (B_law_opened (startR N_law_opened ds) M)
noncomputable def B_law_right : SF :=
  (sSeq (sIf (bOr (bNot (bOf (eUn (isiD "list") (eVar 0)))) (bOf (eBin neD (eVar 0) (eVar 1)))) (sRet (eC (.bl false))) sNext)
    (sSeq (sFor (iA (eVar 0)) (gNm 2) (sIf (bOr (bNot (bOf (eUn (isiD "tuple") (eVar 2)))) (bOf (eUn (isiD "bool") (eBin ixA (eVar 2) (eC (.int 0)))))) (sRet (eC (.bl false))) sNext))
    (sRet (eC (.bl true)))))
def N_law_right : List Str := ["_law_found", "_law_due", "_law_one"]
noncomputable def G_law_right : MF := fun ds M => finM (B_law_right (startR N_law_right ds) M)
noncomputable def B_NameLook_first (Cl : Nat → Addr)  : SF :=
  (sSeq (sSet 5 (eMd sdD (eVar 1) (aCons (eVar 2) (aCons (eCa lstP aNil) aNil))))
    (sSeq (sFor (iA (eVar 5)) (gTp 2 (gC (gNm 6) (gC (gNm 7) gN))) (sSet 3 (eCall 2 G_mask_without (aCons (eVar 3) (aCons (eVar 6) aNil)))))
    (sIf (bOf (eBin neD (eVar 3) (eC (.int 0)))) (sEx (eMt "list" appD (eVar 5) (aCons (eCa tupD (aCons (eVar 3) (aCons (eVar 4) aNil))) aNil))) sNext)))
def N_NameLook_first : List Str := ["self", "table", "name", "mask", "many", "parts", "taken", "others"]
noncomputable def G_NameLook_first (Cl : Nat → Addr) : MF := fun ds M => finM ((B_NameLook_first Cl) (startR N_NameLook_first ds) M)
noncomputable def B_NameLook_is_kind (Cl : Nat → Addr)  : SF :=
  (sIf (bAnd (bOf (eBin neD (eVar 3) (eC (.str "num")))) (bOf (eBin neD (eVar 3) (eC (.str "truth"))))) (sSeq (sFor (iA (eMd getD (eFld [Cl 0] "records" (eVar 0)) (aCons (eVar 3) (aCons (eCa lstF aNil) aNil)))) (gTp 2 (gC (gNm 4) (gC (gNm 5) gN))) (sSet 1 (eCall 2 G_mask_without (aCons (eVar 1) (aCons (eVar 4) aNil)))))
    (sEx (eMeth (Cl 0) "note" 5 (G_NameLook_note Cl) (eVar 0) (aCons (eVar 1) (aCons (eVar 2) (aCons (eC (.str "nokind")) (aCons (eVar 3) aNil))))))) sNext)
def N_NameLook_is_kind : List Str := ["self", "mask", "at", "kind", "here", "many"]
noncomputable def G_NameLook_is_kind (Cl : Nat → Addr) : MF := fun ds M => finM ((B_NameLook_is_kind Cl) (startR N_NameLook_is_kind ds) M)
noncomputable def B_NameLook_uses (Cl : Nat → Addr)  : SF :=
  (sSeq (sFor (iA (eMd getD (eVar 1) (aCons (eBin ixA (eVar 3) (eC (.int 1))) (aCons (eCa lstF aNil) aNil)))) (gTp 2 (gC (gNm 6) (gC (gNm 7) gN))) (sSeq (sIf (bOf (eBin neD (eVar 7) (eCa lenD (aCons (eBin ixA (eVar 3) (eC (.int 2))) aNil)))) (sEx (eMeth (Cl 0) "note" 5 (G_NameLook_note Cl) (eVar 0) (aCons (eBin andD (eVar 4) (eVar 6)) (aCons (eVar 5) (aCons (eC (.str "count")) (aCons (eBin ixA (eVar 3) (eC (.int 1))) aNil)))))) sNext)
    (sSet 4 (eCall 2 G_mask_without (aCons (eVar 4) (aCons (eVar 6) aNil))))))
    (sEx (eMeth (Cl 0) "note" 5 (G_NameLook_note Cl) (eVar 0) (aCons (eVar 4) (aCons (eVar 5) (aCons (eVar 2) (aCons (eBin ixA (eVar 3) (eC (.int 1))) aNil)))))))
def N_NameLook_uses : List Str := ["self", "table", "what", "expr", "mask", "at", "here", "many"]
noncomputable def G_NameLook_uses (Cl : Nat → Addr) : MF := fun ds M => finM ((B_NameLook_uses Cl) (startR N_NameLook_uses ds) M)
noncomputable def B_law_names : SF :=
  (sSeq (sSet 1 (eBin (addA false) (eC (.str "q")) (eSlA (eCall 1 G_law_word (aCons (eVar 0) aNil)) oNo (oIx (eC (.int 7))))))
    (sSeq (sSet 2 (eBin (addA false) (eC (.int 1)) (eBin modD (eBin divD (eVar 0) (eC (.int 8))) (eBin subD (eCa lenD (aCons (eVar 1) aNil)) (eC (.int 1))))))
    (sSeq (sIf (bOf (eBin eqD (eBin modD (eBin divD (eVar 0) (eC (.int 64))) (eC (.int 2))) (eC (.int 1)))) (sSeq (sSet 1 (eSlA (eVar 1) oNo (oIx (eC (.int 5)))))
    (sRet (eCa lstF (aCons (eVar 1) (aCons (eBin (addA false) (eVar 1) (eC (.str "z"))) (aCons (eBin (addA false) (eVar 1) (eC (.str "zz"))) (aCons (eBin (addA false) (eVar 1) (eC (.str "zzz"))) aNil))))))) sNext)
    (sRet (eLcF (iStrF (eC (.str "gkvz"))) [3] (gNm 3) bYes (eBin (addA false) (eBin (addA false) (eSlA (eVar 1) oNo (oIx (eVar 2))) (eVar 3)) (eSlA (eVar 1) (oIx (eBin (addA false) (eVar 2) (eC (.int 1)))) oNo)))))))
def N_law_names : List Str := ["_law_number", "_law_word_here", "_law_at", "_law_sign"]
noncomputable def G_law_names : PF := fun ds => fin (B_law_names (startR N_law_names ds) [])
noncomputable def B_law_expr (g_law_expr : PF) : SF :=
  (sSeq (sSet 3 (eBin modD (eVar 0) (eC (.int 11))))
    (sSeq (sSet 4 (eBin divD (eVar 0) (eC (.int 11))))
    (sSeq (sIf (bOr (bOf (eBin eqD (eVar 2) (eC (.int 0)))) (bOf (eBin ltD (eVar 3) (eC (.int 4))))) (sSeq (sIf (bOf (eBin eqD (eBin modD (eVar 3) (eC (.int 4))) (eC (.int 0)))) (sRet (eCa tupD (aCons (eC (.str "num")) (aCons (eBin modD (eVar 4) (eBin powD (eC (.int 10)) (eC (.int 18)))) aNil)))) sNext)
    (sSeq (sIf (bOf (eBin eqD (eBin modD (eVar 3) (eC (.int 4))) (eC (.int 1)))) (sRet (eCa tupD (aCons (eC (.str "truth")) (aCons (eBin ixA (eCa lstF (aCons (eC (.str "yes")) (aCons (eC (.str "no")) aNil))) (eBin modD (eVar 4) (eC (.int 2)))) aNil)))) sNext)
    (sRet (eCa tupD (aCons (eC (.str "name")) (aCons (eBin ixA (eVar 1) (eBin modD (eVar 4) (eCa lenD (aCons (eVar 1) aNil)))) aNil)))))) sNext)
    (sSeq (sIf (bOf (eBin eqD (eVar 3) (eC (.int 4)))) (sRet (eCa tupD (aCons (eC (.str "not")) (aCons (eCall 3 g_law_expr (aCons (eCall 2 G_law_mixed (aCons (eVar 0) (aCons (eC (.int 1)) aNil))) (aCons (eVar 1) (aCons (eBin subD (eVar 2) (eC (.int 1))) aNil)))) aNil)))) sNext)
    (sSeq (sSet 5 (eBin ixA (eCa lstF (aCons (eC (.str "+")) (aCons (eC (.str "-")) (aCons (eC (.str "*")) (aCons (eC (.str "less")) (aCons (eC (.str "same")) (aCons (eC (.str "and")) (aCons (eC (.str "or")) aNil)))))))) (eBin modD (eVar 4) (eC (.int 7)))))
    (sSeq (sSet 6 (eCall 3 g_law_expr (aCons (eCall 2 G_law_mixed (aCons (eVar 0) (aCons (eC (.int 2)) aNil))) (aCons (eVar 1) (aCons (eBin subD (eVar 2) (eC (.int 1))) aNil)))))
    (sRet (eCa tupD (aCons (eVar 5) (aCons (eVar 6) (aCons (eCall 3 g_law_expr (aCons (eCall 2 G_law_mixed (aCons (eVar 0) (aCons (eC (.int 3)) aNil))) (aCons (eVar 1) (aCons (eBin subD (eVar 2) (eC (.int 1))) aNil)))) aNil)))))))))))
def N_law_expr : List Str := ["_law_number", "_law_names_here", "_law_deep", "_law_form", "_law_more", "_law_word_here", "_law_left"]
noncomputable def G_law_expr : Nat → PF
  | 0 => fun _ => .fail
  | n + 1 => fun ds => fin ((B_law_expr (G_law_expr n)) (startR N_law_expr ds) [])
noncomputable def B_NameLook_gather (Cl : Nat → Addr)  : SF :=
  (sSeq (sSet 4 (eBin ixA (eVar 2) (eC (.int 1))))
    (sSeq (sSet 5 (eBin ixA (eVar 2) (eC (.int 2))))
    (sSeq (sSet 6 (eMd getD (eVar 3) (aCons (eVar 5) (aCons (eC (.int 0)) aNil))))
    (sSeq (sEx (eMeth (Cl 0) "note" 5 (G_NameLook_note Cl) (eVar 0) (aCons (eBin andD (eVar 1) (eVar 6)) (aCons (eVar 4) (aCons (eC (.str "twice")) (aCons (eVar 5) aNil))))))
    (sSeq (sSetA (eVar 3) (eVar 5) (eBin orD (eVar 6) (eVar 1)))
    (sIf (bOf (eBin eqD (eBin ixA (eVar 2) (eC (.int 0))) (eC (.str "def")))) (sEx (eMeth (Cl 0) "first" 5 (G_NameLook_first Cl) (eVar 0) (aCons (eFld [Cl 0] "defs" (eVar 0)) (aCons (eVar 5) (aCons (eVar 1) (aCons (eCa lenD (aCons (eBin ixA (eVar 2) (eC (.int 4))) aNil)) aNil)))))) (sEx (eMeth (Cl 0) "first" 5 (G_NameLook_first Cl) (eVar 0) (aCons (eFld [Cl 0] "records" (eVar 0)) (aCons (eVar 5) (aCons (eVar 1) (aCons (eCa lenD (aCons (eBin ixA (eVar 2) (eC (.int 3))) aNil)) aNil))))))))))))
def N_NameLook_gather : List Str := ["self", "mask", "statement", "named", "at", "name", "known"]
noncomputable def G_NameLook_gather (Cl : Nat → Addr) : MF := fun ds M => finM ((B_NameLook_gather Cl) (startR N_NameLook_gather ds) M)
noncomputable def B_NameLook_reads (Cl : Nat → Addr) (g_NameLook_reads : MF) : SF :=
  (sSeq (sSet 5 (eBin ixA (eVar 1) (eC (.int 0))))
    (sSeq (sIf (bOr (bOf (eBin eqD (eVar 5) (eC (.str "num")))) (bOf (eBin eqD (eVar 5) (eC (.str "truth"))))) sRetN sNext)
    (sIf (bOf (eBin eqD (eVar 5) (eC (.str "name")))) (sEx (eMeth (Cl 0) "note" 5 (G_NameLook_note Cl) (eVar 0) (aCons (eCall 2 G_mask_without (aCons (eVar 2) (aCons (eMd getD (eVar 4) (aCons (eBin ixA (eVar 1) (eC (.int 1))) (aCons (eC (.int 0)) aNil))) aNil))) (aCons (eVar 3) (aCons (eC (.str "unset")) (aCons (eBin ixA (eVar 1) (eC (.int 1))) aNil)))))) (sIf (bOf (eBin eqD (eVar 5) (eC (.str "do")))) (sSeq (sEx (eMeth (Cl 0) "uses" 6 (G_NameLook_uses Cl) (eVar 0) (aCons (eFld [Cl 0] "defs" (eVar 0)) (aCons (eC (.str "nofunc")) (aCons (eVar 1) (aCons (eVar 2) (aCons (eVar 3) aNil)))))))
    (sFor (iA (eBin ixA (eVar 1) (eC (.int 2)))) (gNm 6) (sEx (eMeth (Cl 0) "reads" 5 g_NameLook_reads (eVar 0) (aCons (eVar 6) (aCons (eVar 2) (aCons (eVar 3) (aCons (eVar 4) aNil)))))))) (sIf (bOf (eBin eqD (eVar 5) (eC (.str "new")))) (sSeq (sEx (eMeth (Cl 0) "uses" 6 (G_NameLook_uses Cl) (eVar 0) (aCons (eFld [Cl 0] "records" (eVar 0)) (aCons (eC (.str "nokind")) (aCons (eVar 1) (aCons (eVar 2) (aCons (eVar 3) aNil)))))))
    (sFor (iA (eBin ixA (eVar 1) (eC (.int 2)))) (gNm 6) (sEx (eMeth (Cl 0) "reads" 5 g_NameLook_reads (eVar 0) (aCons (eVar 6) (aCons (eVar 2) (aCons (eVar 3) (aCons (eVar 4) aNil)))))))) (sIf (bOf (eBin eqD (eVar 5) (eC (.str "of")))) (sEx (eMeth (Cl 0) "reads" 5 g_NameLook_reads (eVar 0) (aCons (eBin ixA (eVar 1) (eC (.int 2))) (aCons (eVar 2) (aCons (eVar 3) (aCons (eVar 4) aNil)))))) (sFor (iA (eSlA (eVar 1) (oIx (eC (.int 1))) oNo)) (gNm 6) (sEx (eMeth (Cl 0) "reads" 5 g_NameLook_reads (eVar 0) (aCons (eVar 6) (aCons (eVar 2) (aCons (eVar 3) (aCons (eVar 4) aNil)))))))))))))
def N_NameLook_reads : List Str := ["self", "expr", "mask", "at", "known", "word", "part"]
noncomputable def G_NameLook_reads (Cl : Nat → Addr) : Nat → MF
  | 0 => failM
  | n + 1 => fun ds M => finM ((B_NameLook_reads Cl (G_NameLook_reads Cl n)) (startR N_NameLook_reads ds) M)
noncomputable def B_NameLook_init (Cl : Nat → Addr)  : SF :=
  (sSeq (sFldF [Cl 0] "faults" (eVar 0) eDct)
    (sSeq (sFldF [Cl 0] "defs" (eVar 0) eDct)
    (sSeq (sFldF [Cl 0] "records" (eVar 0) eDct)
    (sSeq (sSet 3 eDct)
    (sFor (iA (eVar 1)) (gTp 2 (gC (gNm 4) (gC (gNm 5) gN))) (sIf (bOr (bOf (eBin eqD (eBin ixA (eVar 5) (eC (.int 0))) (eC (.str "def")))) (bOf (eBin eqD (eBin ixA (eVar 5) (eC (.int 0))) (eC (.str "kind"))))) (sEx (eMeth (Cl 0) "gather" 4 (G_NameLook_gather Cl) (eVar 0) (aCons (eBin andD (eVar 4) (eVar 2)) (aCons (eVar 5) (aCons (eVar 3) aNil))))) sNext))))))
def N_NameLook_init : List Str := ["self", "tree", "mask", "named", "here", "statement"]
noncomputable def G_NameLook_init (Cl : Nat → Addr) : MF := fun ds M => finM ((B_NameLook_init Cl) (startR N_NameLook_init ds) M)
noncomputable def B_law_row : SF :=
  (sSeq (sSet 4 (eBin modD (eVar 1) (eC (.int 9))))
    (sSeq (sSet 5 (eCall 3 (G_law_expr 5) (aCons (eCall 2 G_law_mixed (aCons (eVar 1) (aCons (eC (.int 5)) aNil))) (aCons (eVar 3) (aCons (eBin modD (eBin divD (eVar 1) (eC (.int 9))) (eC (.int 4))) aNil)))))
    (sSeq (sIf (bOf (eBin ltD (eVar 4) (eC (.int 2)))) (sSeq (sSet 6 (eBin ixA (eVar 3) (eBin modD (eBin divD (eVar 1) (eC (.int 36))) (eCa lenD (aCons (eVar 3) aNil)))))
    (sSeq (sEx (eMt "list" appD (eBin ixA (eBin ixA (eVar 0) (eUn negD (eC (.int 1)))) (eC (.int 0))) (aCons (eCa tupD (aCons (eC (.str "set")) (aCons (eVar 2) (aCons (eVar 6) (aCons (eVar 5) aNil))))) aNil)))
    (sRet (eCa tupD (aCons (eVar 5) (aCons (eVar 6) aNil)))))) sNext)
    (sSeq (sIf (bOf (eBin ltD (eVar 4) (eC (.int 4)))) (sSeq (sEx (eMt "list" appD (eBin ixA (eBin ixA (eVar 0) (eUn negD (eC (.int 1)))) (eC (.int 0))) (aCons (eCa tupD (aCons (eC (.str "tell")) (aCons (eVar 2) (aCons (eVar 5) aNil)))) aNil)))
    (sRet (eCa tupD (aCons (eVar 5) (aCons (eC .non) aNil))))) sNext)
    (sSeq (sIf (bAnd (bOf (eBin ltD (eVar 4) (eC (.int 6)))) (bOf (eBin ltD (eCa lenD (aCons (eVar 0) aNil)) (eC (.int 5))))) (sSeq (sEx (eCallM 4 G_law_opened (aCons (eVar 0) (aCons (eVar 4) (aCons (eVar 2) (aCons (eVar 5) aNil))))))
    (sRet (eCa tupD (aCons (eVar 5) (aCons (eC .non) aNil))))) sNext)
    (sSeq (sIf (bAnd (bOf (eBin eqD (eVar 4) (eC (.int 6)))) (bOf (eBin isNotD (eBin ixA (eBin ixA (eVar 0) (eUn negD (eC (.int 1)))) (eC (.int 1))) (eC .non)))) (sSeq (sTgt (gTp 2 (gC (gNm 7) (gC (gNm 8) gN))) (eMt "list" popD (eVar 0) aNil))
    (sEx (eMt "list" appD (eVar 0) (aCons (eCa tupD (aCons (eVar 8) (aCons (eC .non) aNil))) aNil)))) (sIf (bAnd (bOf (eBin eqD (eVar 4) (eC (.int 7)))) (bOf (eBin gtD (eCa lenD (aCons (eVar 0) aNil)) (eC (.int 1))))) (sEx (eMt "list" popD (eVar 0) aNil)) sNext))
    (sRet (eCa tupD (aCons (eC .non) (aCons (eC .non) aNil))))))))))
def N_law_row : List Str := ["_law_stack", "_law_number", "_law_at", "_law_names_here", "_law_form", "_law_e", "_law_name", "_law_block", "_law_other"]
noncomputable def G_law_row : MF := fun ds M => finM (B_law_row (startR N_law_row ds) M)
noncomputable def B_law_built : SF :=
  (sSeq (sSet 1 (eCall 1 G_law_names (aCons (eCall 2 G_law_mixed (aCons (eCall 2 G_law_cell_at (aCons (eVar 0) (aCons (eC (.int 0)) aNil))) (aCons (eC (.int 9)) aNil))) aNil)))
    (sSeq (sSet 2 (eCa lstP aNil))
    (sSeq (sSet 3 (eCa lstP (aCons (eCa tupD (aCons (eVar 2) (aCons (eC .non) aNil))) aNil)))
    (sSeq (sSet 4 (eCa lstP aNil))
    (sSeq (sSet 5 (eCa lstP aNil))
    (sSeq (sFor (iEn (eSlA (eVar 0) (oIx (eC (.int 1))) (oIx (eC (.int 21))))) (gTp 2 (gC (gNm 6) (gC (gNm 7) gN))) (sSeq (sTgt (gTp 2 (gC (gNm 8) (gC (gNm 9) gN))) (eCallM 4 G_law_row (aCons (eVar 3) (aCons (eCall 2 G_law_mixed (aCons (eVar 7) (aCons (eVar 6) aNil))) (aCons (eVar 6) (aCons (eVar 1) aNil))))))
    (sSeq (sIf (bOf (eBin isNotD (eVar 8) (eC .non))) (sFor (iA (eCall 1 (G_law_reads 5) (aCons (eVar 8) aNil))) (gNm 10) (sIf (bAnd (bOf (eBin ninA (eVar 10) (eVar 5))) (bOf (eBin ninA (eCa tupD (aCons (eVar 6) (aCons (eC (.str "unset")) (aCons (eVar 10) aNil)))) (eVar 4)))) (sEx (eMt "list" appD (eVar 4) (aCons (eCa tupD (aCons (eVar 6) (aCons (eC (.str "unset")) (aCons (eVar 10) aNil)))) aNil))) sNext)) sNext)
    (sIf (bOf (eBin isNotD (eVar 9) (eC .non))) (sEx (eMt "list" appD (eVar 5) (aCons (eVar 9) aNil))) sNext))))
    (sRet (eCa tupD (aCons (eVar 2) (aCons (eCa (sortA false) (aCons (eVar 4) aNil)) aNil))))))))))
def N_law_built : List Str := ["_law_script", "_law_names_here", "_law_top", "_law_stack", "_law_due", "_law_known", "_law_at", "_law_cell", "_law_e", "_law_name", "_law_read"]
noncomputable def G_law_built : PF := fun ds => fin (B_law_built (startR N_law_built ds) [])
noncomputable def B_NameLook_walk (Cl : Nat → Addr) (g_NameLook_step : MF) : SF :=
  (sFor (iA (eVar 1)) (gTp 2 (gC (gNm 4) (gC (gNm 5) gN))) (sSeq (sSet 4 (eBin andD (eVar 4) (eVar 2)))
    (sIf (bOf (eBin neD (eVar 4) (eC (.int 0)))) (sEx (eMeth (Cl 0) "step" 4 g_NameLook_step (eVar 0) (aCons (eVar 5) (aCons (eVar 4) (aCons (eVar 3) aNil))))) sNext)))
def N_NameLook_walk : List Str := ["self", "block", "mask", "known", "here", "statement"]
noncomputable def B_NameLook_step (Cl : Nat → Addr) (g_NameLook_walk : MF) (g_NameLook_define : MF) : SF :=
  (sSeq (sSet 4 (eBin ixA (eVar 1) (eC (.int 0))))
    (sSeq (sSet 5 (eBin ixA (eVar 1) (eC (.int 1))))
    (sIf (bOf (eBin eqD (eVar 4) (eC (.str "def")))) (sEx (eMeth (Cl 0) "define" 3 g_NameLook_define (eVar 0) (aCons (eVar 1) (aCons (eVar 2) aNil)))) (sIf (bOf (eBin eqD (eVar 4) (eC (.str "set")))) (sSeq (sEx (eMeth (Cl 0) "reads" 5 (G_NameLook_reads Cl 6) (eVar 0) (aCons (eBin ixA (eVar 1) (eC (.int 3))) (aCons (eVar 2) (aCons (eVar 5) (aCons (eVar 3) aNil))))))
    (sSetA (eVar 3) (eBin ixA (eVar 1) (eC (.int 2))) (eBin orD (eMd getD (eVar 3) (aCons (eBin ixA (eVar 1) (eC (.int 2))) (aCons (eC (.int 0)) aNil))) (eVar 2)))) (sIf (bOf (eBin neD (eVar 4) (eC (.str "kind")))) (sSeq (sEx (eMeth (Cl 0) "reads" 5 (G_NameLook_reads Cl 6) (eVar 0) (aCons (eBin ixA (eVar 1) (eC (.int 2))) (aCons (eVar 2) (aCons (eVar 5) (aCons (eVar 3) aNil))))))
    (sFor (iA (eSlA (eVar 1) (oIx (eC (.int 3))) oNo)) (gNm 6) (sEx (eMeth (Cl 0) "walk" 4 g_NameLook_walk (eVar 0) (aCons (eVar 6) (aCons (eVar 2) (aCons (eVar 3) aNil))))))) sNext)))))
def N_NameLook_step : List Str := ["self", "statement", "mask", "known", "word", "at", "block"]
noncomputable def B_NameLook_define (Cl : Nat → Addr) (g_NameLook_walk : MF) : SF :=
  (sSeq (sTgt (gTp 6 (gC (gNm 3) (gC (gNm 4) (gC (gNm 5) (gC (gNm 6) (gC (gNm 7) (gC (gNm 8) gN))))))) (eVar 1))
    (sSeq (sEx (eMeth (Cl 0) "is_kind" 4 (G_NameLook_is_kind Cl) (eVar 0) (aCons (eVar 2) (aCons (eVar 4) (aCons (eVar 6) aNil)))))
    (sSeq (sSet 9 eDct)
    (sSeq (sFor (iA (eVar 7)) (gTp 2 (gC (gNm 10) (gC (gNm 11) gN))) (sSeq (sEx (eMeth (Cl 0) "is_kind" 4 (G_NameLook_is_kind Cl) (eVar 0) (aCons (eVar 2) (aCons (eVar 4) (aCons (eVar 11) aNil)))))
    (sSetA (eVar 9) (eVar 10) (eVar 2))))
    (sEx (eMeth (Cl 0) "walk" 4 g_NameLook_walk (eVar 0) (aCons (eVar 8) (aCons (eVar 2) (aCons (eVar 9) aNil)))))))))
def N_NameLook_define : List Str := ["self", "statement", "mask", "word", "at", "name", "kind", "params", "body", "known", "param", "its"]
mutual
noncomputable def G_NameLook_walk (Cl : Nat → Addr) : Nat → MF
  | 0 => failM
  | n + 1 => fun ds M => finM ((B_NameLook_walk Cl (G_NameLook_step Cl n)) (startR N_NameLook_walk ds) M)
noncomputable def G_NameLook_step (Cl : Nat → Addr) : Nat → MF
  | 0 => failM
  | n + 1 => fun ds M => finM ((B_NameLook_step Cl (G_NameLook_walk Cl n) (G_NameLook_define Cl n)) (startR N_NameLook_step ds) M)
noncomputable def G_NameLook_define (Cl : Nat → Addr) : Nat → MF
  | 0 => failM
  | n + 1 => fun ds M => finM ((B_NameLook_define Cl (G_NameLook_walk Cl n)) (startR N_NameLook_define ds) M)
end
noncomputable def B_shared_names (Cl : Nat → Addr)  : SF :=
  (sSeq (sSet 2 (eMake (Cl 0) 3 (G_NameLook_init Cl) (aCons (eVar 0) (aCons (eVar 1) aNil))))
    (sSeq (sEx (eMeth (Cl 0) "walk" 4 (G_NameLook_walk Cl 12) (eVar 2) (aCons (eVar 0) (aCons (eVar 1) (aCons eDct aNil)))))
    (sRet (eLcF (iA (eCa (sortA false) (aCons (eFld [Cl 0] "faults" (eVar 2)) aNil))) [3] (gNm 3) bYes (eCa tupD (aCons (eBin ixA (eFld [Cl 0] "faults" (eVar 2)) (eVar 3)) (aCons (eBin ixA (eVar 3) (eC (.int 0))) (aCons (eBin ixA (eVar 3) (eC (.int 1))) (aCons (eBin ixA (eVar 3) (eC (.int 2))) aNil)))))))))
def N_shared_names : List Str := ["tree", "mask", "look", "fault"]
noncomputable def G_shared_names (Cl : Nat → Addr) : PF := fun ds => fin ((B_shared_names Cl) (startR N_shared_names ds) [])
noncomputable def B_plain_names (Cl : Nat → Addr)  : SF :=
  (sRet (eLcP (iA (eCall 2 (G_shared_names Cl) (aCons (eCall 1 (G_lifted_tree 7) (aCons (eVar 0) aNil)) (aCons (eC (.int 1)) aNil)))) [1] (gNm 1) bYes (eSlA (eVar 1) (oIx (eC (.int 1))) oNo)))
def N_plain_names : List Str := ["tree", "fault"]
noncomputable def G_plain_names (Cl : Nat → Addr) : MF := fun ds M => finM ((B_plain_names Cl) (startR N_plain_names ds) M)
noncomputable def B_law (Cl : Nat → Addr)  : SF :=
  (sSeq (sTgt (gTp 2 (gC (gNm 1) (gC (gNm 2) gN))) (eCall 1 G_law_built (aCons (eVar 0) aNil)))
    (sSeq (sSet 3 (eCallM 1 (G_plain_names Cl) (aCons (eVar 1) aNil)))
    (sSeq (sIf (bOr (bNot (bOf (eCallM 2 G_law_right (aCons (eVar 3) (aCons (eVar 2) aNil))))) (bOf (eBin neD (eVar 1) (eBin ixA (eCall 1 G_law_built (aCons (eVar 0) aNil)) (eC (.int 0)))))) (sRet (eC (.bl false))) sNext)
    (sSeq (sEx (eMt "list" appD (eVar 3) (aCons (eCa tupD (aCons (eC (.int 0)) (aCons (eC (.str "unset")) (aCons (eC (.str "a")) aNil)))) aNil)))
    (sRet (eCallM 2 G_law_right (aCons (eCallM 1 (G_plain_names Cl) (aCons (eVar 1) aNil)) (aCons (eVar 2) aNil))))))))
def N_law : List Str := ["_law_script", "_law_tree", "_law_due", "_law_found"]
noncomputable def G_law (Cl : Nat → Addr) : PF := fun ds => fin ((B_law Cl) (startR N_law ds) [])
end MM.Law

namespace MM.Law
open PySem PySem.Spec PyProof.Rows L2 TL
@[simp] theorem ixA_tup (l : List D) (i : D) (M : Mem) : ixA (.tup l) i M = ixD (.tup l) i M := rfl
@[simp] theorem ixA_lst (l : List D) (i : D) (M : Mem) : ixA (.lst l) i M = ixD (.lst l) i M := rfl
@[simp] theorem ixA_scr (l : List D) (i : D) (M : Mem) : ixA (.scr l) i M = ixD (.scr l) i M := rfl
@[simp] theorem ixA_str (l : Str) (i : D) (M : Mem) : ixA (.str l) i M = ixD (.str l) i M := rfl
theorem dctD_ptr {k : Nat} {l : List D} {M : Mem} (e : M[k]? = some (.lst l)) : dctD M (.ptr k) = none := by
  unfold dctD
  dsimp only
  rw [e]
theorem ixA_ptr {k : Nat} {l : List D} {i : D} {M : Mem} (e : M[k]? = some (.lst l)) : ixA (.ptr k) i M = ixD (.ptr k) i M := by
  unfold ixA
  rw [dctD_ptr e]
@[simp] theorem addA_int (P : Bool) (i j : Int) (M : Mem) : addA P (.int i) (.int j) M = .ok (.int (i + j)) M := rfl
@[simp] theorem addA_str (P : Bool) (x y : Str) (M : Mem) : addA P (.str x) (.str y) M = if x.length + y.length ≤ 1000000 then .ok (.str (x ++ y)) M else .fail := rfl
theorem addA_tup (P : Bool) (l m : List D) (M : Mem) : addA P (.tup l) (.tup m) M = if l.length + m.length ≤ 1000000 then .ok (.tup (l ++ m)) M else .fail := rfl
theorem addA_lst (l m : List D) (M : Mem) : addA false (.lst l) (.lst m) M = if l.length + m.length ≤ 1000000 then .ok (.lst (l ++ m)) M else .fail := rfl
@[simp] theorem ixD_tup (l : List D) (k : Nat) (M : Mem) : ixD (.tup l) (.int (OfNat.ofNat k)) M = match l[k]? with | some d => .ok d M | none => .fail := by
  have e : itemsD M (.tup l) = some l := rfl
  show (match itemsD M (.tup l) with | some l => (match atI l (k : Int) with | some d => Fl.ok d M | none => .fail) | none => .fail) = _
  rw [e]
  dsimp only
  unfold atI ixN
  by_cases h : k < l.length
  · simp [h]
  · simp [h]
theorem g_cell (ns : List Int) (k : Nat) : G_law_cell_at [.scr (ns.map .int), .int k] = .ok (.int (ns.getD k 0)) := by
  unfold G_law_cell_at B_law_cell_at
  by_cases h : k < ns.length
  · simp [startR, N_law_cell_at, sSeq, sIf, bOf, eBin, eVar, ltD, eCa, lenD, aCons, aNil, itemsD, sRet, eC, h, ixD, atI, ixN, fin_rt]
  · simp [startR, N_law_cell_at, sSeq, sIf, bOf, eBin, eVar, ltD, eCa, lenD, aCons, aNil, itemsD, sRet, eC, h, ixD, sNext, fin_rt]
def mixN (c k : Int) : Int := (c + 7919 * k + 1) * 48271 % 2147483647 * ((c + 7919 * k + 1) * 48271 % 2147483647 / 1009 + 69621) % 2147483647
theorem mix_nn (c k : Int) : 0 ≤ mixN c k := Int.emod_nonneg _ (by decide)
theorem g_mixed (c k : Int) : G_law_mixed [.int c, .int k] = .ok (.int (mixN c k)) := by
  unfold G_law_mixed B_law_mixed
  have h1 : 0 ≤ (c + 7919 * k + 1) * 48271 % 2147483647 := Int.emod_nonneg _ (by decide)
  have h2 : (c + 7919 * k + 1) * 48271 % 2147483647 < 2147483647 := Int.emod_lt_of_pos _ (by decide)
  have h3 : (-18446744073709551616 < (c + 7919 * k + 1) * 48271 % 2147483647 ∧ (c + 7919 * k + 1) * 48271 % 2147483647 < 18446744073709551616) := by omega
  simp [startR, N_law_mixed, sSeq, sSet, eBin, eVar, mulD, modD, divD, sRet, eC, h3, fin_rt]
  rfl
/-! ### words and names -/
def Fine (x : Str) : Prop := ∀ c ∈ tl x, c < 128
theorem atI_in {α : Type} {l : List α} {k : Int} (h0 : 0 ≤ k) (h1 : k < l.length) : ∃ c, atI l k = some c ∧ c ∈ l := by
  have h : k.toNat < l.length := by omega
  refine ⟨l[k.toNat], ?_, List.getElem_mem h⟩
  unfold atI ixN
  rw [if_pos h0, if_pos h1]
  exact List.getElem?_eq_getElem h
theorem fine_app {x y : Str} (hx : Fine x) (hy : Fine y) : Fine (x ++ y) := fun c hc => by
  rw [tl_append] at hc
  exact (List.mem_append.mp hc).elim (hx c) (hy c)
theorem fine_cut {x : Str} (hx : Fine x) (l h : Option Int) : Fine (cutS x l h) := fun c hc => by
  have hc : c ∈ ((x.cps.toList.drop (HT.sIx x.length 0 l)).take (HT.sIx x.length x.length h - HT.sIx x.length 0 l)) := by simpa [tl, cutS] using hc
  exact hx c (List.mem_of_mem_drop (List.mem_of_mem_take hc))
theorem len_app (x y : Str) : (x ++ y).length = x.length + y.length := by rw [len_tl, tl_append, List.length_append, ← len_tl, ← len_tl]
def alpha : Str := "xyzuvwpqabcdefghijklmnorst"
theorem alpha_tl : tl alpha = [120, 121, 122, 117, 118, 119, 112, 113, 97, 98, 99, 100, 101, 102, 103, 104, 105, 106, 107, 108, 109, 110, 111, 114, 115, 116] := by decide +kernel
theorem alpha_len : alpha.length = 26 := by rw [len_tl, alpha_tl]; rfl
theorem g_word (n : Int) (hn : 0 ≤ n) : ∃ w, G_law_word [.int n] = .ok (.str w) ∧ Fine w ∧ 1 ≤ w.length ∧ w.length ≤ 8 := by
  unfold G_law_word B_law_word
  rw [show startR N_law_word [.int n] = [some (.int n), none, none, none] from rfl]
  rw [seq_nx (ρ1 := [some (.int n), some (.str alpha), none, none]) (M1 := []) rfl, seq_nx (ρ1 := [some (.int n), some (.str alpha), some (.str ""), none]) (M1 := []) rfl]
  have hm0 : 0 ≤ n % 8 := Int.emod_nonneg _ (by decide)
  have hm1 : n % 8 < 8 := Int.emod_lt_of_pos _ (by decide)
  obtain ⟨ρ', M', e, hM, w, k, rfl, hf, hl⟩ := sFor_nx (ρ := [some (.int n), some (.str alpha), some (.str ""), none]) (M := []) (M0 := []) (it := ⟨rangeL 0 (1 + n % 8).toNat, none⟩)
    (fi := iR1 (eBin (addA false) (eC (.int 1)) (eBin modD (eVar 0) (eC (.int 8))))) (g := gNm 3) (body := sSet 2 (eBin (addA false) (eVar 2) (eBin ixA (eVar 1) (eBin modD (eBin divD (eVar 0) (eBin (addA false) (eC (.int 8)) (eBin mulD (eC (.int 25)) (eVar 3)))) (eC (.int 26))))))
    (fun j ρ M => M = [] ∧ ∃ w k, ρ = [some (.int n), some (.str alpha), some (.str w), k] ∧ Fine w ∧ w.length = j) (by
      simp [iR1, eBin, modD, eC, eVar]
      omega) (by
      rintro j d ρ M hd ⟨rfl, w, k, rfl, hf, hl⟩
      obtain ⟨hj, rfl⟩ := rangeL_get hd
      refine ⟨trivial, _, rfl, ?_⟩
      have hq0 : 0 ≤ n / (8 + 25 * (0 + (j : Int))) % 26 := Int.emod_nonneg _ (by decide)
      have hq1 : n / (8 + 25 * (0 + (j : Int))) % 26 < 26 := Int.emod_lt_of_pos _ (by decide)
      obtain ⟨c, hc, hm⟩ := atI_in (l := alpha.cps.toList) (k := n / (8 + 25 * (0 + (j : Int))) % 26) hq0 (by rw [show alpha.cps.toList = _ from alpha_tl]; exact hq1)
      refine ⟨[some (.int n), some (.str alpha), some (.str (w ++ ⟨#[c]⟩)), some (.int (0 + j))], [], .inl ?_, rfl, _, _, rfl, fine_app hf fun c' hc' => ?_, ?_⟩
      · have h1 : (0 : Int) < 8 + 25 * (0 + (j : Int)) ∧ 8 + 25 * (0 + (j : Int)) < 1073741824 := by omega
        have h2 : (⟨#[c]⟩ : Str).length = 1 := rfl
        simp [gNm, sSet, eBin, ixD, eVar, mulD, divD, modD, eC, alpha_len] at *
        rw [if_pos h1]
        simp [hc, h2]
        rw [if_pos (by omega)]
        rfl
      · have : c' = c := by simpa [tl] using hc'
        rw [this]
        have hm : c ∈ tl alpha := hm
        rw [alpha_tl] at hm
        have : ∀ c ∈ [120, 121, 122, 117, 118, 119, 112, 113, 97, 98, 99, 100, 101, 102, 103, 104, 105, 106, 107, 108, 109, 110, 111, 114, 115, 116], c < 128 := by decide
        exact this c hm
      · rw [len_app, hl]
        rfl) (fun _ _ _ => trivial) ⟨rfl, "", none, rfl, (fun c hc => by cases hc), rfl⟩
  rw [seq_nx e]
  refine ⟨w, fin_rt trivial, hf, ?_, ?_⟩
  · rw [hl]
    simp
    omega
  · rw [hl]
    simp
    omega
theorem fine_lit (x : Str) (h : (tl x).all (fun c => decide (c < 128)) = true) : Fine x := fun c hc => by simpa using List.all_eq_true.mp h c hc
theorem g_names (n : Int) (hn : 0 ≤ n) : ∃ xs : List Str, G_law_names [.int n] = .ok (.lst (xs.map .str)) ∧ xs.length = 4 ∧ (∀ x ∈ xs, Fine x) := by
  obtain ⟨w, hw, hf, hl1, hl8⟩ := g_word n hn
  unfold G_law_names B_law_names
  rw [show startR N_law_names [.int n] = [some (.int n), none, none, none] from rfl]
  have hq : Fine ("q" ++ cutS w none (some 7)) := fine_app (fine_lit _ (by decide +kernel)) (fine_cut hf _ _)
  have hql : ("q" ++ cutS w none (some 7) : Str).length ≤ 20 := by
    have := cutS_length w none (some 7)
    rw [len_app, show ("q" : Str).length = 1 from by decide +kernel]
    omega
  have hcut : (cutS w none (some 7)).length ≤ 8 := Nat.le_trans (cutS_length w _ _) hl8
  have hq1 : 1 ≤ (cutS w none (some 7)).length := by
    unfold cutS Str.length
    simp [HT.sIx, Str.length] at *
    omega
  generalize hz : ("q" ++ cutS w none (some 7) : Str) = z at hq hql
  have hz1 : 2 ≤ z.length := by
    rw [← hz, len_app, show ("q" : Str).length = 1 from by decide +kernel]
    omega
  have e1 : sSet 1 (eBin (addA false) (eC (.str "q")) (eSlA (eCall 1 G_law_word (aCons (eVar 0) aNil)) oNo (oIx (eC (.int 7))))) [some (.int n), none, none, none] [] = .ok (.nx [some (.int n), some (.str z), none, none]) [] := by
    refine set_ok ((bin_ok rfl (b := .str (cutS w none (some 7))) (M2 := []) ?_).trans ?_)
    · unfold eSlA
      rw [call_ok (m := 1) (l := [.int n]) (d := .str w) (M1 := []) rfl rfl (by simp) hw trivial]
      simp [oNo, oIx, eC]
      omega
    · rw [addA_str, if_pos (by rw [show ("q" : Str).length = 1 from by decide +kernel]; omega), hz]
  rw [seq_nx e1]
  have hd : (0 : Int) < (z.length : Int) - 1 ∧ (z.length : Int) - 1 < 1073741824 := by omega
  have e2 : sSet 2 (eBin (addA false) (eC (.int 1)) (eBin modD (eBin divD (eVar 0) (eC (.int 8))) (eBin subD (eCa lenD (aCons (eVar 1) aNil)) (eC (.int 1))))) [some (.int n), some (.str z), none, none] [] = .ok (.nx [some (.int n), some (.str z), some (.int (1 + n / 8 % ((z.length : Int) - 1))), none]) [] := by
    have hz2 : z.length ≤ 1000000 := by omega
    have hd3 : (1 : Int) < z.length := by omega
    simp [sSet, eBin, eC, eVar, modD, divD, subD, eCa, lenD, aCons, aNil, hz2, hd, hd3]
  rw [seq_nx e2]
  have hb : ∀ b : Bool, bOf (eBin eqD (eBin modD (eBin divD (eVar 0) (eC (.int 64))) (eC (.int 2))) (eC (.int 1))) [some (.int n), some (.str z), some (.int (1 + n / 8 % ((z.length : Int) - 1))), none] [] = .ok (decide (n / 64 % 2 = 1)) [] := fun _ => by
    simp [bOf, eBin, eVar, eC, modD, divD, eqD, eqS]
  by_cases h : n / 64 % 2 = 1
  · have ht : Fine (cutS z none (some 5)) := fine_cut hq _ _
    have htl : (cutS z none (some 5)).length ≤ 20 := Nat.le_trans (cutS_length z _ _) hql
    have z1 : ("z" : Str).length = 1 := by decide +kernel
    have z2 : ("zz" : Str).length = 2 := by decide +kernel
    have z3 : ("zzz" : Str).length = 3 := by decide +kernel
    refine ⟨[cutS z none (some 5), cutS z none (some 5) ++ "z", cutS z none (some 5) ++ "zz", cutS z none (some 5) ++ "zzz"], ?_, rfl, ?_⟩
    · have hz2 : z.length ≤ 1000000 := by omega
      generalize ht0 : cutS z none (some 5) = t at *
      have k1 : t.length + ("z" : Str).length ≤ 1000000 := by omega
      have k2 : t.length + ("zz" : Str).length ≤ 1000000 := by omega
      have k3 : t.length + ("zzz" : Str).length ≤ 1000000 := by omega
      refine (congrArg fin (seq_rt (d := .lst ([t, t ++ "z", t ++ "zz", t ++ "zzz"].map .str)) (M1 := []) ?_)).trans (fin_rt (by simp))
      rw [if_ok (hb true), if_pos (by simpa using h), seq_nx (ρ1 := [some (.int n), some (.str t), some (.int (1 + n / 8 % ((z.length : Int) - 1))), none]) (M1 := []) (by simp [sSet, eSlA, eVar, oNo, oIx, eC, hz2, ht0])]
      simp [sRet, eCa, aCons, eVar, eBin, aNil, lstF, k1, k2, k3, eC]
    · intro x hx
      simp only [List.mem_cons, List.not_mem_nil, or_false] at hx
      rcases hx with rfl | rfl | rfl | rfl
      · exact ht
      · exact fine_app ht (fine_lit _ (by decide +kernel))
      · exact fine_app ht (fine_lit _ (by decide +kernel))
      · exact fine_app ht (fine_lit _ (by decide +kernel))
  · have k1 : ∀ c : Nat, (⟨#[c]⟩ : Str).length = 1 := fun c => rfl
    have hz2 : z.length ≤ 1000000 := by omega
    let p : Int := 1 + n / 8 % ((z.length : Int) - 1)
    let f : Nat → Str := fun c => cutS z none (some p) ++ ⟨#[c]⟩ ++ cutS z (some (p + 1)) none
    let v : D → D := fun d => match d with
      | .str x => .str (cutS z none (some p) ++ x ++ cutS z (some (p + 1)) none)
      | d => d
    refine ⟨(tl ("gkvz" : Str)).map f, ?_, by rw [List.length_map]; decide +kernel, ?_⟩
    · rw [seq_nx (ρ1 := [some (.int n), some (.str z), some (.int p), none]) (M1 := []) (by rw [if_ok (hb true), if_neg (by simpa using h)]; rfl)]
      refine (congrArg fin (ret_ok (d := .lst ((tl ("gkvz" : Str)).map fun c => D.str (f c))) (M1 := []) ?_)).trans ?_
      · rw [eLcF_map (it := ⟨(tl ("gkvz" : Str)).map fun c => D.str ⟨#[c]⟩, none⟩) (M := []) v (by rfl) trivial (by rw [List.length_map]; decide +kernel) (fun d hd => by
          obtain ⟨c, hc, rfl⟩ := List.mem_map.mp hd
          refine ⟨_, rfl, ?_⟩
          have a1 : (cutS z none (some p)).length ≤ 20 := Nat.le_trans (cutS_length z _ _) hql
          have a2 : (cutS z (some (p + 1)) none).length ≤ 20 := Nat.le_trans (cutS_length z _ _) hql
          have a3 : (cutS z none (some p)).length + (⟨#[c]⟩ : Str).length ≤ 1000000 := by rw [k1]; omega
          have a4 : (cutS z none (some p) ++ ⟨#[c]⟩ : Str).length + (cutS z (some (p + 1)) none).length ≤ 1000000 := by rw [len_app, k1]; omega
          simp [eBin, eSlA, eVar, oNo, oIx, eC, hz2, a3, a4, v, wipeR])]
        rw [List.map_map]
        rfl
      · rw [fin_rt (by
          show bndL 0 _
          rw [show ((tl ("gkvz" : Str)).map fun c => D.str (f c)) = ((tl ("gkvz" : Str)).map f).map D.str from by rw [List.map_map]; rfl]
          exact bndL_strs _), List.map_map]
        rfl
    · intro x hx
      obtain ⟨c, hc, rfl⟩ := List.mem_map.mp hx
      refine fine_app (fine_app (fine_cut hq _ _) fun d hd => ?_) (fine_cut hq _ _)
      have : d = c := by simpa [tl] using hd
      subst this
      exact fine_lit "gkvz" (by decide +kernel) d hc
end MM.Law

namespace MM.Law
open PySem PySem.Spec PyProof.Rows L2 TL
/-! ### EXPRs -/
inductive Op where | add | sub | mul | less | same | and | or
def Op.s : Op → Str
  | .add => "+" | .sub => "-" | .mul => "*" | .less => "less" | .same => "same" | .and => "and" | .or => "or"
inductive Ex where
  | num (i : Int) | tru (x : Str) | nam (x : Str) | ng (e : Ex) | bin (o : Op) (a b : Ex)
def Ex.d : Ex → D
  | .num i => .tup [.str "num", .int i]
  | .tru x => .tup [.str "truth", .str x]
  | .nam x => .tup [.str "name", .str x]
  | .ng e => .tup [.str "not", e.d]
  | .bin o a b => .tup [.str o.s, a.d, b.d]
def Ex.dep : Ex → Nat
  | .ng e => e.dep + 1
  | .bin _ a b => max a.dep b.dep + 1
  | _ => 0
def Ex.reads : Ex → List Str
  | .nam x => [x]
  | .ng e => e.reads
  | .bin _ a b => a.reads ++ b.reads
  | _ => []
/-- its texts are fine -/
def Ex.ok : Ex → Prop
  | .num _ => True
  | .tru x => Fine x
  | .nam x => Fine x
  | .ng e => e.ok
  | .bin _ a b => a.ok ∧ b.ok
@[simp] theorem Ex.bnd (n : Nat) : ∀ e : Ex, MM.bnd n e.d
  | .num _ => ⟨trivial, trivial, trivial⟩
  | .tru _ => ⟨trivial, trivial, trivial⟩
  | .nam _ => ⟨trivial, trivial, trivial⟩
  | .ng e => ⟨trivial, Ex.bnd n e, trivial⟩
  | .bin _ a b => ⟨trivial, Ex.bnd n a, Ex.bnd n b, trivial⟩
theorem Ex.tup : ∀ e : Ex, ∃ l, e.d = .tup l
  | .num _ => ⟨_, rfl⟩
  | .tru _ => ⟨_, rfl⟩
  | .nam _ => ⟨_, rfl⟩
  | .ng _ => ⟨_, rfl⟩
  | .bin _ _ _ => ⟨_, rfl⟩
def opOf : Nat → Op
  | 0 => .add | 1 => .sub | 2 => .mul | 3 => .less | 4 => .same | 5 => .and | _ => .or
theorem op_at {k : Int} (h0 : 0 ≤ k) (h1 : k < 7) : atI [D.str "+", .str "-", .str "*", .str "less", .str "same", .str "and", .str "or"] k = some (.str (opOf k.toNat).s) := by
  obtain ⟨m, rfl⟩ : ∃ m : Nat, k = m := ⟨k.toNat, by omega⟩
  have hm : m < 7 := by omega
  rcases m with _ | _ | _ | _ | _ | _ | _ | m
  all_goals first | rfl | omega
theorem yes_at {k : Int} (h0 : 0 ≤ k) (h1 : k < 2) : ∃ x, atI [D.str "yes", .str "no"] k = some (.str x) ∧ Fine x := by
  obtain ⟨m, rfl⟩ : ∃ m : Nat, k = m := ⟨k.toNat, by omega⟩
  have hm : m < 2 := by omega
  rcases m with _ | _ | m
  · exact ⟨"yes", rfl, fine_lit _ (by decide +kernel)⟩
  · exact ⟨"no", rfl, fine_lit _ (by decide +kernel)⟩
  · omega
theorem bor_ok {f g : BF} {ρ : Ro} {a b : Bool} {M : Mem} (h : f ρ M = .ok a M) (h2 : g ρ M = .ok b M) : bOr f g ρ M = .ok (a || b) M := by
  cases a with
  | true => rw [bor_t h]; rfl
  | false => rw [bor_f h h2]; rfl
theorem band_ok {f g : BF} {ρ : Ro} {a b : Bool} {M : Mem} (h : f ρ M = .ok a M) (h2 : g ρ M = .ok b M) : bAnd f g ρ M = .ok (a && b) M := by
  cases a with
  | true => rw [band_t h h2]; rfl
  | false => rw [band_f h]; rfl
section
variable (xs : List Str) (g : PF)
def rE (n : Int) (deep : Nat) (w l : Option D) : Ro := [some (.int n), some (.lst (xs.map .str)), some (.int deep), some (.int (n % 11)), some (.int (n / 11)), w, l]
theorem expr_pre (n : Int) (deep : Nat) (f : SF) : sSeq (sSet 3 (eBin modD (eVar 0) (eC (.int 11)))) (sSeq (sSet 4 (eBin divD (eVar 0) (eC (.int 11)))) f) (startR N_law_expr [.int n, .lst (xs.map .str), .int deep]) [] = f (rE xs n deep none none) [] := by
  rw [show startR N_law_expr [.int n, .lst (xs.map .str), .int deep] = [some (.int n), some (.lst (xs.map .str)), some (.int deep), none, none, none, none] from rfl]
  rw [seq_nx (ρ1 := [some (.int n), some (.lst (xs.map .str)), some (.int deep), some (.int (n % 11)), none, none, none]) (M1 := []) (by simp [sSet, eBin, modD, eVar, eC])]
  rw [seq_nx (ρ1 := rE xs n deep none none) (M1 := []) (by simp [sSet, eBin, divD, eVar, eC, rE])]
theorem expr_c (n : Int) (deep : Nat) : bOr (bOf (eBin eqD (eVar 2) (eC (.int 0)))) (bOf (eBin ltD (eVar 3) (eC (.int 4)))) (rE xs n deep none none) [] = .ok (decide (deep = 0) || decide (n % 11 < 4)) [] := by
  refine bor_ok (beqI_ok (i := deep) (j := 0) rfl rfl ?_) (blt_ok (i := n % 11) (j := 4) rfl rfl rfl)
  by_cases h : deep = 0 <;> simp [h]
theorem expr_leaf (hx : xs ≠ []) (hz : xs.length ≤ 1000) (hf : ∀ x ∈ xs, Fine x) (n : Int) (hn : 0 ≤ n) (deep : Nat) (h : (decide (deep = 0) || decide (n % 11 < 4)) = true) : ∃ e : Ex, fin (B_law_expr g (startR N_law_expr [.int n, .lst (xs.map .str), .int deep]) []) = .ok e.d ∧ e.dep = 0 ∧ e.ok := by
  unfold B_law_expr
  rw [expr_pre]
  have hm0 : 0 ≤ n / 11 := Int.ediv_nonneg hn (by decide)
  have c0 : bOf (eBin eqD (eBin modD (eVar 3) (eC (.int 4))) (eC (.int 0))) (rE xs n deep none none) [] = .ok (decide (n % 11 % 4 = 0)) [] := beqI_ok (i := n % 11 % 4) (j := 0) (bin_ok (a := .int (n % 11)) (b := .int 4) rfl rfl) rfl rfl
  have c1 : bOf (eBin eqD (eBin modD (eVar 3) (eC (.int 4))) (eC (.int 1))) (rE xs n deep none none) [] = .ok (decide (n % 11 % 4 = 1)) [] := beqI_ok (i := n % 11 % 4) (j := 1) (bin_ok (a := .int (n % 11)) (b := .int 4) rfl rfl) rfl rfl
  by_cases a0 : n % 11 % 4 = 0
  · refine ⟨.num (n / 11 % 10 ^ 18), ?_, rfl, trivial⟩
    refine (congrArg fin (seq_rt (d := Ex.d (.num (n / 11 % 10 ^ 18))) (M1 := []) ?_)).trans (fin_rt (Ex.bnd _ _))
    rw [if_ok (expr_c xs n deep), if_pos h]
    refine seq_rt (M1 := []) ?_
    rw [if_ok c0, if_pos (by simpa using a0)]
    simp [sRet, eCa, aCons, aNil, eBin, modD, powD, eVar, eC, rE, tupD, Ex.d]
  · rw [show sSeq = sSeq from rfl]
    by_cases a1 : n % 11 % 4 = 1
    · obtain ⟨y, hy, fy⟩ := yes_at (k := n / 11 % 2) (Int.emod_nonneg _ (by decide)) (Int.emod_lt_of_pos _ (by decide))
      refine ⟨.tru y, ?_, rfl, fy⟩
      refine (congrArg fin (seq_rt (d := Ex.d (.tru y)) (M1 := []) ?_)).trans (fin_rt (Ex.bnd _ _))
      rw [if_ok (expr_c xs n deep), if_pos h]
      rw [seq_nx (ρ1 := rE xs n deep none none) (M1 := []) (by rw [if_ok c0, if_neg (by simpa using a0)]; rfl)]
      refine seq_rt (M1 := []) ?_
      rw [if_ok c1, if_pos (by simpa using a1)]
      refine ret_ok (ca_ok (l := [.str "truth", .str y]) (M1 := []) (acons_ok rfl (aone_ok ((bin_ok (a := .lst [.str "yes", .str "no"]) (b := .int (n / 11 % 2)) (M1 := []) (M2 := []) rfl (by simp [eBin, modD, eVar, eC, rE])).trans ?_))) |>.trans rfl)
      rw [ixA_lst]
      simp [ixD, itemsD, hy]
    · have hl : 0 < (xs.length : Int) := by
        have := List.length_pos_iff.mpr hx
        omega
      have hq0 : 0 ≤ n / 11 % (xs.length : Int) := Int.emod_nonneg _ (by omega)
      have hq1 : n / 11 % (xs.length : Int) < (xs.map D.str).length := by rw [List.length_map]; exact Int.emod_lt_of_pos _ hl
      obtain ⟨d, hd, hm⟩ := atI_in hq0 hq1
      obtain ⟨y, hy, rfl⟩ := List.mem_map.mp hm
      refine ⟨.nam y, ?_, rfl, hf y hy⟩
      refine (congrArg fin (seq_rt (d := Ex.d (.nam y)) (M1 := []) ?_)).trans (fin_rt (Ex.bnd _ _))
      rw [if_ok (expr_c xs n deep), if_pos h]
      rw [seq_nx (ρ1 := rE xs n deep none none) (M1 := []) (by rw [if_ok c0, if_neg (by simpa using a0)]; rfl)]
      rw [seq_nx (ρ1 := rE xs n deep none none) (M1 := []) (by rw [if_ok c1, if_neg (by simpa using a1)]; rfl)]
      have hl2 : (0 : Int) < xs.length ∧ (xs.length : Int) < 1073741824 := by omega
      refine ret_ok (ca_ok (l := [.str "name", .str y]) (M1 := []) (acons_ok rfl (aone_ok ((bin_ok (a := .lst (xs.map .str)) (b := .int (n / 11 % (xs.length : Int))) (M1 := []) (M2 := []) rfl ?_).trans ?_))) |>.trans rfl)
      · refine (bin_ok (a := .int (n / 11)) (b := .int xs.length) (M1 := []) (M2 := []) rfl ?_).trans ?_
        · simp [eCa, lenD, aCons, aNil, eVar, rE, itemsD]
        · simp [modD, hl2, hx]
      · rw [ixA_lst]
        simp [ixD, itemsD, hd]
theorem g_expr (hx : xs ≠ []) (hz : xs.length ≤ 1000) (hf : ∀ x ∈ xs, Fine x) : ∀ (deep fuel : Nat) (n : Int), 0 ≤ n → deep < fuel → ∃ e : Ex, G_law_expr fuel [.int n, .lst (xs.map .str), .int deep] = .ok e.d ∧ e.dep ≤ deep ∧ e.ok := by
  intro deep
  induction deep with
  | zero =>
    intro fuel n hn hfu
    obtain ⟨fuel, rfl⟩ : ∃ k, fuel = k + 1 := ⟨fuel - 1, by omega⟩
    obtain ⟨e, h1, h2, h3⟩ := expr_leaf xs (G_law_expr fuel) hx hz hf n hn 0 (by simp)
    exact ⟨e, h1, by omega, h3⟩
  | succ deep ih =>
    intro fuel n hn hfu
    obtain ⟨fuel, rfl⟩ : ∃ k, fuel = k + 1 := ⟨fuel - 1, by omega⟩
    by_cases h : n % 11 < 4
    · obtain ⟨e, h1, h2, h3⟩ := expr_leaf xs (G_law_expr fuel) hx hz hf n hn (deep + 1) (by simp [h])
      exact ⟨e, h1, by omega, h3⟩
    · obtain ⟨e1, a1, a2, a3⟩ := ih fuel (mixN n 1) (mix_nn _ _) (by omega)
      obtain ⟨e2, b1, b2, b3⟩ := ih fuel (mixN n 2) (mix_nn _ _) (by omega)
      obtain ⟨e3, c1, c2, c3⟩ := ih fuel (mixN n 3) (mix_nn _ _) (by omega)
      have call : ∀ (k : Int) (w l : Option D) (e : Ex), G_law_expr fuel [.int (mixN n k), .lst (xs.map .str), .int deep] = .ok e.d →
          eCall 3 (G_law_expr fuel) (aCons (eCall 2 G_law_mixed (aCons (eVar 0) (aCons (eC (.int k)) aNil))) (aCons (eVar 1) (aCons (eBin subD (eVar 2) (eC (.int 1))) aNil))) (rE xs n (deep + 1) w l) [] = .ok e.d [] := fun k w l e he => by
        refine call_ok (m := 3) (l := [.int (mixN n k), .lst (xs.map .str), .int deep]) (M1 := []) (acons_ok (M1 := []) (call_ok (m := 2) (l := [.int n, .int k]) (M1 := []) rfl rfl (by simp) (g_mixed n k) trivial) (acons_ok (M1 := []) rfl (aone_ok ?_))) rfl (by simp) he (Ex.bnd _ _)
        have e0 : ((deep + 1 : Nat) : Int) - 1 = deep := by omega
        simp only [eBin, subD, eVar, eC, rE, Fl.bind_ok, List.getElem?_cons_zero, List.getElem?_cons_succ, e0]
      have hc : (decide (deep + 1 = 0) || decide (n % 11 < 4)) = false := by simp; omega
      have c4 : bOf (eBin eqD (eVar 3) (eC (.int 4))) (rE xs n (deep + 1) none none) [] = .ok (decide (n % 11 = 4)) [] := beqI_ok (i := n % 11) (j := 4) rfl rfl rfl
      show ∃ e : Ex, fin (B_law_expr (G_law_expr fuel) (startR N_law_expr [.int n, .lst (xs.map .str), .int ((deep + 1 : Nat) : Int)]) []) = .ok e.d ∧ e.dep ≤ deep + 1 ∧ e.ok
      unfold B_law_expr
      rw [expr_pre]
      rw [seq_nx (ρ1 := rE xs n (deep + 1) none none) (M1 := []) (by rw [if_ok (expr_c xs n (deep + 1)), if_neg (by rw [hc]; exact Bool.false_ne_true)]; rfl)]
      by_cases h4 : n % 11 = 4
      · refine ⟨.ng e1, ?_, by show e1.dep + 1 ≤ _; omega, a3⟩
        refine (congrArg fin (seq_rt (d := Ex.d (.ng e1)) (M1 := []) ?_)).trans (fin_rt (Ex.bnd _ _))
        rw [if_ok c4, if_pos (by simpa using h4)]
        exact ret_ok ((ca_ok (l := [.str "not", e1.d]) (M1 := []) (acons_ok rfl (aone_ok (call 1 none none e1 a1)))).trans rfl)
      · rw [seq_nx (ρ1 := rE xs n (deep + 1) none none) (M1 := []) (by rw [if_ok c4, if_neg (by simpa using h4)]; rfl)]
        have hop := op_at (k := n / 11 % 7) (Int.emod_nonneg _ (by decide)) (Int.emod_lt_of_pos _ (by decide))
        generalize hoo : opOf (n / 11 % 7).toNat = o at hop
        refine ⟨.bin o e2 e3, ?_, by show max e2.dep e3.dep + 1 ≤ _; omega, b3, c3⟩
        rw [seq_nx (ρ1 := rE xs n (deep + 1) (some (.str o.s)) none) (M1 := []) (set_ok ((bin_ok (a := .lst [D.str "+", .str "-", .str "*", .str "less", .str "same", .str "and", .str "or"]) (b := .int (n / 11 % 7)) (M1 := []) (M2 := []) rfl (by simp [eBin, modD, eVar, eC, rE])).trans (by rw [ixA_lst]; simp [ixD, itemsD, hop])))]
        rw [seq_nx (ρ1 := rE xs n (deep + 1) (some (.str o.s)) (some e2.d)) (M1 := []) (set_ok (call 2 _ _ e2 b1))]
        refine (congrArg fin (ret_ok (d := Ex.d (.bin o e2 e3)) (M1 := []) ?_)).trans (fin_rt (Ex.bnd _ _))
        exact (ca_ok (l := [.str o.s, e2.d, e3.d]) (M1 := []) (acons_ok rfl (acons_ok rfl (aone_ok (call 3 _ _ e3 c1))))).trans rfl
end
end MM.Law

namespace MM.Law
open PySem PySem.Spec PyProof.Rows L2 TL
theorem sne {x y : Str} (h : ¬ x = y) : (D.str x = D.str y) = False := by simpa using h
theorem eqD_str (x y : Str) (M : Mem) : eqD (.str x) (.str y) M = .ok (.bl (decide (x = y))) M := rfl
theorem neD_str (x y : Str) (M : Mem) : neD (.str x) (.str y) M = .ok (.bl (!decide (x = y))) M := rfl
theorem bneS_ok {fa fb : EF} {ρ : Ro} {M M1 M2 : Mem} {i j : Str} {k : Bool} (h1 : fa ρ M = .ok (.str i) M1) (h2 : fb ρ M1 = .ok (.str j) M2) (h : (!decide (i = j)) = k) : bOf (eBin neD fa fb) ρ M = .ok k M2 := bof_ok ((bin_ok h1 h2).trans (by rw [← h]; rfl))
/-- the word of an EXPR -/
def Ex.w : Ex → Str
  | .num _ => "num" | .tru _ => "truth" | .nam _ => "name" | .ng _ => "not" | .bin o _ _ => o.s
/-- what stands behind it -/
def Ex.r : Ex → List D
  | .num i => [.int i] | .tru x => [.str x] | .nam x => [.str x] | .ng e => [e.d] | .bin _ a b => [a.d, b.d]
theorem Ex.d_eq : ∀ e : Ex, e.d = .tup (.str e.w :: e.r)
  | .num _ => rfl | .tru _ => rfl | .nam _ => rfl | .ng _ => rfl | .bin _ _ _ => rfl
def Ex.parts : Ex → List Ex
  | .ng e => [e] | .bin _ a b => [a, b] | _ => []
def Ex.leaf : Ex → Bool
  | .ng _ => false | .bin _ _ _ => false | _ => true
theorem cut1 (x : D) (l : List D) : cutL (x :: l) (some 1) none = l := by
  unfold cutL
  simp [HT.sIx]
@[simp] theorem jx0 (x : D) (l : List D) (M : Mem) : ixD (.tup (x :: l)) (.int 0) M = .ok x M := ix_tup (k := 0) rfl
@[simp] theorem jx1 (x y : D) (l : List D) (M : Mem) : ixD (.tup (x :: y :: l)) (.int 1) M = .ok y M := ix_tup (k := 1) rfl
@[simp] theorem jx2 (x y z : D) (l : List D) (M : Mem) : ixD (.tup (x :: y :: z :: l)) (.int 2) M = .ok z M := ix_tup (k := 2) rfl
@[simp] theorem jx3 (x y z u : D) (l : List D) (M : Mem) : ixD (.tup (x :: y :: z :: u :: l)) (.int 3) M = .ok u M := ix_tup (k := 3) rfl
@[simp] theorem jx4 (x y z u v : D) (l : List D) (M : Mem) : ixD (.tup (x :: y :: z :: u :: v :: l)) (.int 4) M = .ok v M := ix_tup (k := 4) rfl
theorem ix0 (x : D) (l : List D) (M : Mem) : ixA (.tup (x :: l)) (.int 0) M = .ok x M := jx0 x l M
theorem ix1 (x y : D) (l : List D) (M : Mem) : ixA (.tup (x :: y :: l)) (.int 1) M = .ok y M := jx1 x y l M
theorem ix2 (x y z : D) (l : List D) (M : Mem) : ixA (.tup (x :: y :: z :: l)) (.int 2) M = .ok z M := jx2 x y z l M
theorem ix3 (x y z u : D) (l : List D) (M : Mem) : ixA (.tup (x :: y :: z :: u :: l)) (.int 3) M = .ok u M := jx3 x y z u l M
theorem ix4 (x y z u v : D) (l : List D) (M : Mem) : ixA (.tup (x :: y :: z :: u :: v :: l)) (.int 4) M = .ok v M := jx4 x y z u v l M
theorem op_ne : ∀ o : Op, ¬ o.s = "num" ∧ ¬ o.s = "truth" ∧ ¬ o.s = "name" ∧ ¬ o.s = "do" ∧ ¬ o.s = "new" ∧ ¬ o.s = "of" := by
  intro o
  cases o <;> decide +kernel
/-! ### the names that an EXPR reads (the law's own) -/
theorem reads_len : ∀ e : Ex, e.reads.length ≤ 2 ^ e.dep
  | .num _ => Nat.zero_le _
  | .tru _ => Nat.zero_le _
  | .nam _ => by show 1 ≤ 2 ^ 0; decide
  | .ng e => by
    have := reads_len e
    show e.reads.length ≤ 2 ^ (e.dep + 1)
    rw [Nat.pow_succ]
    omega
  | .bin _ a b => by
    have ha := reads_len a
    have hb := reads_len b
    show (a.reads ++ b.reads).length ≤ 2 ^ (max a.dep b.dep + 1)
    rw [List.length_append, Nat.pow_succ]
    have h1 : 2 ^ a.dep ≤ 2 ^ max a.dep b.dep := Nat.pow_le_pow_right (by decide) (Nat.le_max_left _ _)
    have h2 : 2 ^ b.dep ≤ 2 ^ max a.dep b.dep := Nat.pow_le_pow_right (by decide) (Nat.le_max_right _ _)
    omega
theorem g_reads : ∀ (e : Ex) (fuel : Nat), e.dep < fuel → e.dep ≤ 10 → G_law_reads fuel [e.d] = .ok (.lst (e.reads.map .str)) := by
  have leaf : ∀ (e : Ex) (g : PF), e.leaf = true → fin (B_law_reads g (startR N_law_reads [e.d]) []) = .ok (.lst (e.reads.map .str)) := by
    intro e g h
    cases e with
    | num i => unfold B_law_reads; simp [startR, N_law_reads, sSeq, sIf, bOf, eBin, eVar, eC, ix0, eqD_str, neD_str, Ex.d, sNext, sSet, eCa, aNil, lstF, bAnd, sRet, fin_rt, Ex.reads, show ¬ (("num" : Str) = "name") from by decide +kernel]
    | tru x => unfold B_law_reads; simp [startR, N_law_reads, sSeq, sIf, bOf, eBin, eVar, eC, ix0, eqD_str, neD_str, Ex.d, sNext, sSet, eCa, aNil, lstF, bAnd, sRet, fin_rt, Ex.reads, show ¬ (("truth" : Str) = "name") from by decide +kernel, show ¬ (("truth" : Str) = "num") from by decide +kernel]
    | nam x => unfold B_law_reads; simp [startR, N_law_reads, sSeq, sIf, bOf, eBin, eVar, eC, ix0, ix1, eqD_str, Ex.d, sRet, eCa, aCons, aNil, lstF, fin_rt, Ex.reads]
    | ng e => cases h
    | bin o a b => cases h
  have node : ∀ (e : Ex) (g : PF), e.leaf = false → e.dep ≤ 10 → (∀ a ∈ e.parts, g [a.d] = .ok (.lst (a.reads.map .str)) ∧ a.dep ≤ 10) → fin (B_law_reads g (startR N_law_reads [e.d]) []) = .ok (.lst ((e.parts.flatMap Ex.reads).map .str)) := by
    intro e g h h10 hp
    unfold B_law_reads
    have hw : ¬ e.w = "name" ∧ ¬ e.w = "num" ∧ ¬ e.w = "truth" := by
      cases e with
      | ng e => exact ⟨show ¬ ("not" : Str) = "name" from by decide +kernel, show ¬ ("not" : Str) = "num" from by decide +kernel, show ¬ ("not" : Str) = "truth" from by decide +kernel⟩
      | bin o a b => exact ⟨(op_ne o).2.2.1, (op_ne o).1, (op_ne o).2.1⟩
      | _ => cases h
    have hr : e.r = e.parts.map Ex.d := by
      cases e with
      | ng e => rfl
      | bin o a b => rfl
      | _ => cases h
    have hpl : e.parts.length ≤ 2 := by
      cases e <;> simp [Ex.parts]
    rw [e.d_eq, show startR N_law_reads [.tup (.str e.w :: e.r)] = [some (.tup (.str e.w :: e.r)), none, none] from rfl]
    rw [seq_nx (ρ1 := [some (.tup (.str e.w :: e.r)), none, none]) (M1 := []) (by rw [if_ok (beqS_ok (i := e.w) (j := "name") (k := false) (bin_ok (a := .tup (.str e.w :: e.r)) (b := .int 0) rfl rfl |>.trans (ix0 _ _ _)) rfl (by simp [hw.1]))]; rfl)]
    rw [seq_nx (ρ1 := [some (.tup (.str e.w :: e.r)), some (.lst []), none]) (M1 := []) rfl]
    obtain ⟨ρ', M', e1, rfl, k, rfl⟩ := sFor_nx (ρ := [some (.tup (.str e.w :: e.r)), some (.lst []), none]) (M := []) (M0 := []) (it := ⟨e.r, none⟩) (fi := iA (eSlA (eVar 0) (oIx (eC (.int 1))) oNo)) (g := gNm 2)
      (body := sSet 1 (eBin (addA false) (eVar 1) (eCall 1 g (aCons (eVar 2) aNil))))
      (fun j ρ M => M = [] ∧ ∃ k, ρ = [some (.tup (.str e.w :: e.r)), some (.lst (((e.parts.take j).flatMap Ex.reads).map .str)), k]) (by simp [iA, eSlA, eVar, oIx, oNo, eC, cut1]) (by
        rintro j d ρ M hd ⟨rfl, k, rfl⟩
        refine ⟨trivial, _, rfl, [some (.tup (.str e.w :: e.r)), some (.lst (((e.parts.take (j + 1)).flatMap Ex.reads).map .str)), some d], [], .inl ?_, rfl, _, rfl⟩
        have hd : e.r[j]? = some d := hd
        rw [hr, List.getElem?_map] at hd
        cases ha : e.parts[j]? with
        | none => rw [ha] at hd; cases hd
        | some a =>
          rw [ha] at hd
          have hd : a.d = d := Option.some.inj hd
          subst hd
          obtain ⟨hg, ha10⟩ := hp a (List.mem_of_getElem? ha)
          have hj : j < e.parts.length := (List.getElem?_eq_some_iff.mp ha).1
          have et : e.parts.take (j + 1) = e.parts.take j ++ [a] := by
            rw [List.take_add_one, ha]
            rfl
          refine set_ok ((bin_ok (a := .lst (((e.parts.take j).flatMap Ex.reads).map .str)) (b := .lst (a.reads.map .str)) (M1 := []) (M2 := []) rfl (call_ok (m := 1) (l := [a.d]) (M1 := []) rfl rfl ⟨Ex.bnd _ _, trivial⟩ hg (bndL_strs _))).trans ?_)
          rw [addA_lst, if_pos, et]
          · rw [List.flatMap_append, List.map_append]
            simp
          · have l1 : ((e.parts.take j).flatMap Ex.reads).length ≤ 2 * 1024 := by
              have : ∀ l : List Ex, l.length ≤ 2 → (∀ a ∈ l, a.dep ≤ 10) → (l.flatMap Ex.reads).length ≤ 2 * 1024 := by
                intro l hl hd
                match l, hl with
                | [], _ => simp
                | [x], _ =>
                  have := reads_len x
                  have h2 : 2 ^ x.dep ≤ 2 ^ 10 := Nat.pow_le_pow_right (by decide) (hd x (by simp))
                  simp
                  omega
                | [x, y], _ =>
                  have := reads_len x
                  have h2 : 2 ^ x.dep ≤ 2 ^ 10 := Nat.pow_le_pow_right (by decide) (hd x (by simp))
                  have := reads_len y
                  have h2 : 2 ^ y.dep ≤ 2 ^ 10 := Nat.pow_le_pow_right (by decide) (hd y (by simp))
                  simp
                  omega
              exact this _ (by rw [List.length_take]; omega) fun a ha => (hp a (List.mem_of_mem_take ha)).2
            have l2 := reads_len a
            have h2 : 2 ^ a.dep ≤ 2 ^ 10 := Nat.pow_le_pow_right (by decide) ha10
            rw [List.length_map, List.length_map]
            omega) (fun _ _ _ => trivial) ⟨rfl, none, rfl⟩
    rw [seq_nx (ρ1 := [some (.tup (.str e.w :: e.r)), some (.lst (((e.parts.take e.r.length).flatMap Ex.reads).map .str)), k]) (M1 := []) (by
      rw [if_ok (band_ok (a := true) (b := true) (bneS_ok (i := e.w) (j := "num") (bin_ok (a := .tup (.str e.w :: e.r)) (b := .int 0) rfl rfl |>.trans (ix0 _ _ _)) rfl (by simp [hw.2.1])) (bneS_ok (i := e.w) (j := "truth") (bin_ok (a := .tup (.str e.w :: e.r)) (b := .int 0) rfl rfl |>.trans (ix0 _ _ _)) rfl (by simp [hw.2.2])))]
      exact e1)]
    have hrl : e.r.length = e.parts.length := by rw [hr, List.length_map]
    have et : e.parts.take e.r.length = e.parts := by rw [hrl, List.take_length]
    refine (congrArg fin (ret_ok (d := .lst ((e.parts.flatMap Ex.reads).map .str)) (M1 := []) ?_)).trans (fin_rt (bndL_strs _))
    show Fl.ok (D.lst (((e.parts.take e.r.length).flatMap Ex.reads).map .str)) [] = _
    rw [et]
  intro e
  induction e with
  | num i => intro fuel h _; obtain ⟨k, rfl⟩ : ∃ k, fuel = k + 1 := ⟨fuel - 1, by omega⟩; exact leaf (Ex.num i) (G_law_reads k) rfl
  | tru x => intro fuel h _; obtain ⟨k, rfl⟩ : ∃ k, fuel = k + 1 := ⟨fuel - 1, by omega⟩; exact leaf (Ex.tru x) (G_law_reads k) rfl
  | nam x => intro fuel h _; obtain ⟨k, rfl⟩ : ∃ k, fuel = k + 1 := ⟨fuel - 1, by omega⟩; exact leaf (Ex.nam x) (G_law_reads k) rfl
  | ng e ih =>
    intro fuel h h10
    obtain ⟨k, rfl⟩ : ∃ k, fuel = k + 1 := ⟨fuel - 1, by omega⟩
    have hd : e.dep + 1 < k + 1 := h
    have hd2 : e.dep + 1 ≤ 10 := h10
    have := node (.ng e) (G_law_reads k) rfl h10 (fun a ha => by
      have : a = e := by simpa [Ex.parts] using ha
      subst this
      exact ⟨ih k (by omega) (by omega), by omega⟩)
    exact this.trans (by simp [Ex.parts, Ex.reads])
  | bin o a b iha ihb =>
    intro fuel h h10
    obtain ⟨k, rfl⟩ : ∃ k, fuel = k + 1 := ⟨fuel - 1, by omega⟩
    have hd : max a.dep b.dep + 1 < k + 1 := h
    have hd2 : max a.dep b.dep + 1 ≤ 10 := h10
    have := node (.bin o a b) (G_law_reads k) rfl h10 (fun c hc => by
      have : c = a ∨ c = b := by simpa [Ex.parts] using hc
      rcases this with rfl | rfl
      · exact ⟨iha k (by omega) (by omega), by omega⟩
      · exact ⟨ihb k (by omega) (by omega), by omega⟩)
    exact this.trans (by simp [Ex.parts, Ex.reads])
end MM.Law

namespace MM.Law
open PySem PySem.Spec PyProof.Rows L2 TL
/-! ### tables of ones -/
def addP {α : Type} [DecidableEq α] (l : List α) (p : α) : List α := if p ∈ l then l else l ++ [p]
def key (p : Int × Str) : D := .tup [.int p.1, .str "unset", .str p.2]
theorem key_inj {p q : Int × Str} (h : key p = key q) : p = q := by
  obtain ⟨a, b⟩ := p
  obtain ⟨c, d⟩ := q
  simp [key] at h
  simp [h]
theorem str_inj {x y : Str} (h : D.str x = D.str y) : x = y := by simpa using h
section
variable {α : Type} [DecidableEq α] (f : α → D) (hf : ∀ p q, f p = f q → p = q)
include hf
theorem getK_ones (p : α) : ∀ l : List α, getK (l.map fun q => (f q, D.int 1)) (f p) = if p ∈ l then some (.int 1) else none
  | [] => by simp [getK]
  | q :: l => by
    rw [List.map_cons]
    unfold getK
    by_cases h : f q = f p
    · rw [if_pos h, if_pos (by rw [hf _ _ h]; exact List.mem_cons_self)]
    · rw [if_neg h, getK_ones p l]
      have : p ≠ q := fun e => h (by rw [e])
      by_cases h2 : p ∈ l <;> simp [h2, this]
theorem putK_ones (p : α) : ∀ l : List α, putK (l.map fun q => (f q, D.int 1)) (f p) (.int 1) = (addP l p).map fun q => (f q, D.int 1)
  | [] => by simp [putK, addP]
  | q :: l => by
    rw [List.map_cons]
    unfold putK
    by_cases h : f q = f p
    · have e := hf _ _ h
      subst e
      rw [if_pos h]
      simp [addP]
    · have hn : p ≠ q := fun e => h (by rw [e])
      rw [if_neg h, putK_ones p l]
      unfold addP
      by_cases h2 : p ∈ l
      · simp [h2]
      · simp [h2, hn]
end
theorem addP_len {α : Type} [DecidableEq α] (l : List α) (p : α) : (addP l p).length ≤ l.length + 1 := by
  unfold addP
  split <;> simp
/-! ### the look's memory -/
def mF (C : Addr) (fs : List (Int × Str)) (ks : List Str) : Mem :=
  [.ins C [("faults", .ptr 1), ("defs", .ptr 2), ("records", .ptr 3)], .dct (fs.map fun p => (key p, D.int 1)), .dct [], .dct [], .dct [], .dct (ks.map fun x => (D.str x, D.int 1))]
theorem ff : ([("faults", D.ptr 1), ("defs", D.ptr 2), ("records", D.ptr 3)] : List (Str × D)).lookup ("faults" : Str) = some (.ptr 1) := by
  rw [List.lookup_cons, show (("faults" : Str) == "faults") = true from by decide +kernel]
theorem noat (x : Str) (h : (x == ("faults" : Str)) = false) (h2 : (x == ("defs" : Str)) = false) (h3 : (x == ("records" : Str)) = false) : ([("faults", D.ptr 1), ("defs", D.ptr 2), ("records", D.ptr 3)] : List (Str × D)).lookup x = none := by
  rw [List.lookup_cons, h, List.lookup_cons, h2, List.lookup_cons, h3]
  rfl
theorem fld_f {C : Addr} {fs : List (Int × Str)} {ks : List Str} {ρ : Ro} (h : ρ[0]? = some (some (.ptr 0))) : eFld [C] "faults" (eVar 0) ρ (mF C fs ks) = .ok (.ptr 1) (mF C fs ks) := by
  unfold eFld
  rw [var_ok h]
  simp [mF, ff]
theorem keyB_key (p : Int × Str) : keyB (key p) = true := rfl
theorem keyB_str (x : Str) : keyB (.str x) = true := rfl
theorem xor1 {b : Int} (h : b = 0 ∨ b = 1) : Builtin.bitXor 1 (Builtin.bitAnd 1 b) = 1 - b := by
  rcases h with rfl | rfl <;> decide +kernel
theorem g_without (b : Int) (h : b = 0 ∨ b = 1) : G_mask_without [.int 1, .int b] = .ok (.int (1 - b)) := by
  unfold G_mask_without B_mask_without
  simp [startR, N_mask_without, sRet, eBin, eVar, xorD, andD, xor1 h, fin_rt]
theorem dctD_1 (C : Addr) (fs : List (Int × Str)) (ks : List Str) : dctD (mF C fs ks) (.ptr 1) = some (fs.map fun p => (key p, D.int 1)) := rfl
theorem dctD_5 (C : Addr) (fs : List (Int × Str)) (ks : List Str) : dctD (mF C fs ks) (.ptr 5) = some (ks.map fun x => (D.str x, D.int 1)) := rfl
theorem g_note (C : Nat → Addr) (fs : List (Int × Str)) (ks : List Str) (hl : fs.length < 1000000) (m : Int) (hm : m = 0 ∨ m = 1) (a : Int) (x : Str) :
    G_NameLook_note C [.ptr 0, .int m, .int a, .str "unset", .str x] (mF (C 0) fs ks) = .ok .non (mF (C 0) (if m = 0 then fs else addP fs (a, x)) ks) := by
  unfold G_NameLook_note B_NameLook_note
  rw [show startR N_NameLook_note [.ptr 0, .int m, .int a, .str "unset", .str x] = [some (.ptr 0), some (.int m), some (.int a), some (.str "unset"), some (.str x), none] from rfl]
  have c : bOf (eBin neD (eVar 1) (eC (.int 0))) [some (.ptr 0), some (.int m), some (.int a), some (.str "unset"), some (.str x), none] (mF (C 0) fs ks) = .ok (!decide (m = 0)) (mF (C 0) fs ks) := by
    refine bof_ok ((bin_ok (a := .int m) (b := .int 0) rfl rfl).trans ?_)
    rfl
  rcases hm with rfl | rfl
  · rw [if_ok c]
    rfl
  · rw [if_ok c, if_pos (by simp)]
    let ρ : Ro := [some (.ptr 0), some (.int 1), some (.int a), some (.str "unset"), some (.str x), some (key (a, x))]
    rw [seq_nx (ρ1 := ρ) (M1 := mF (C 0) fs ks) rfl]
    have hg : eMd getD (eFld [C 0] "faults" (eVar 0)) (aCons (eVar 5) (aCons (eC (.int 0)) aNil)) ρ (mF (C 0) fs ks) = .ok (.int (if (a, x) ∈ fs then 1 else 0)) (mF (C 0) fs ks) := by
      unfold eMd
      rw [fld_f rfl, Fl.bind_ok, if_pos (by rw [dctD_1]; rfl)]
      show getD (.ptr 1) [key (a, x), .int 0] (mF (C 0) fs ks) = _
      unfold getD
      rw [dctD_1]
      dsimp only
      rw [if_pos (keyB_key _), getK_ones key (fun _ _ => key_inj)]
      split <;> rfl
    have ho : eBin orD (eMd getD (eFld [C 0] "faults" (eVar 0)) (aCons (eVar 5) (aCons (eC (.int 0)) aNil))) (eVar 1) ρ (mF (C 0) fs ks) = .ok (.int 1) (mF (C 0) fs ks) := by
      refine (bin_ok hg rfl (b := .int 1)).trans ?_
      split <;> rfl
    show finM (sSetA (eFld [C 0] "faults" (eVar 0)) (eVar 5) (eBin orD (eMd getD (eFld [C 0] "faults" (eVar 0)) (aCons (eVar 5) (aCons (eC (.int 0)) aNil))) (eVar 1)) ρ (mF (C 0) fs ks)) = _
    unfold sSetA
    rw [ho, Fl.bind_ok, fld_f rfl, Fl.bind_ok]
    show finM (match setD (.ptr 1) (key (a, x)) (.int 1) (mF (C 0) fs ks) with | some M4 => .ok (.nx ρ) M4 | none => .fail) = _
    have hs : setD (.ptr 1) (key (a, x)) (.int 1) (mF (C 0) fs ks) = some (mF (C 0) (addP fs (a, x)) ks) := by
      unfold setD
      dsimp only
      rw [show (mF (C 0) fs ks)[1]? = some (.dct (fs.map fun p => (key p, D.int 1))) from rfl]
      dsimp only
      rw [if_pos ⟨keyB_key _, by rw [List.length_map]; exact hl⟩, putK_ones key (fun _ _ => key_inj)]
      rfl
    rw [hs]
    rfl
/-! ### what an EXPR's reading notes -/
def note1 (a : Int) (ks : List Str) (fs : List (Int × Str)) (x : Str) : List (Int × Str) := if x ∈ ks then fs else addP fs (a, x)
def notes (a : Int) (ks : List Str) (fs : List (Int × Str)) (xs : List Str) : List (Int × Str) := xs.foldl (note1 a ks) fs
theorem notes_len (a : Int) (ks : List Str) : ∀ (xs : List Str) (fs : List (Int × Str)), (notes a ks fs xs).length ≤ fs.length + xs.length
  | [], fs => Nat.le_refl _
  | x :: xs, fs => by
    have := notes_len a ks xs (note1 a ks fs x)
    have h2 : (note1 a ks fs x).length ≤ fs.length + 1 := by
      unfold note1
      split
      · omega
      · exact addP_len _ _
    show (notes a ks (note1 a ks fs x) xs).length ≤ _
    rw [List.length_cons]
    omega
theorem notes_app (a : Int) (ks : List Str) (fs : List (Int × Str)) (xs ys : List Str) : notes a ks fs (xs ++ ys) = notes a ks (notes a ks fs xs) ys := List.foldl_append
section
variable (C : Nat → Addr) (ks : List Str) (a : Int)
def rR (e : Ex) (w p : Option D) : Ro := [some (.ptr 0), some e.d, some (.int 1), some (.int a), some (.ptr 5), w, p]
theorem meth_ok {mn : Str} {m : Nat} {G : MF} {fo : EF} {fa : AF} {ρ : Ro} {k : Nat} {fs : List (Str × D)} {Cx : Addr} {l : List D} {M M1 M2 : Mem} {r : Fl D} (h1 : fo ρ M = .ok (.ptr k) M1) (h2 : M1[k]? = some (.ins Cx fs)) (h3 : fs.lookup mn = none) (h4 : fa ρ M1 = .ok l M2) (h5 : l.length + 1 = m) (h6 : G (.ptr k :: l) M2 = r) : eMeth Cx mn m G fo fa ρ M = r := by
  unfold eMeth
  rw [h1, Fl.bind_ok]
  dsimp only
  rw [h2]
  dsimp only
  rw [if_pos ⟨rfl, h3⟩, h4, Fl.bind_ok, if_pos h5, h6]
theorem reads_pre (g : MF) (e : Ex) (fs : List (Int × Str)) (f : SF) : sSeq (sSet 5 (eBin ixA (eVar 1) (eC (.int 0)))) f (startR N_NameLook_reads [.ptr 0, e.d, .int 1, .int a, .ptr 5]) (mF (C 0) fs ks) = f (rR a e (some (.str e.w)) none) (mF (C 0) fs ks) := by
  rw [show startR N_NameLook_reads [.ptr 0, e.d, .int 1, .int a, .ptr 5] = rR a e none none from rfl]
  rw [seq_nx (ρ1 := rR a e (some (.str e.w)) none) (M1 := mF (C 0) fs ks) (set_ok ((bin_ok (a := e.d) (b := .int 0) rfl rfl).trans (by rw [e.d_eq]; exact ix0 _ _ _)))]
theorem w_eq (e : Ex) (p : Option D) (fs : List (Int × Str)) (x : Str) (k : Bool) (h : decide (e.w = x) = k) : bOf (eBin eqD (eVar 5) (eC (.str x))) (rR a e (some (.str e.w)) p) (mF (C 0) fs ks) = .ok k (mF (C 0) fs ks) := beqS_ok rfl rfl h
theorem look_reads : ∀ (e : Ex) (fuel : Nat) (fs : List (Int × Str)), e.dep < fuel → fs.length + e.reads.length < 1000000 →
    G_NameLook_reads C fuel [.ptr 0, e.d, .int 1, .int a, .ptr 5] (mF (C 0) fs ks) = .ok .non (mF (C 0) (notes a ks fs e.reads) ks) := by
  have nt : ∀ x y : Str, ¬ x = y → decide (x = y) = false := fun x y h => by simpa using h
  have leaf : ∀ (e : Ex) (g : MF) (fs : List (Int × Str)), e.leaf = true → fs.length + e.reads.length < 1000000 →
      finM (B_NameLook_reads C g (startR N_NameLook_reads [.ptr 0, e.d, .int 1, .int a, .ptr 5]) (mF (C 0) fs ks)) = .ok .non (mF (C 0) (notes a ks fs e.reads) ks) := by
    intro e g fs h hl
    unfold B_NameLook_reads
    rw [reads_pre C ks a g]
    cases e with
    | num i =>
      rw [seq_rt (d := .non) (M1 := mF (C 0) fs ks) (by rw [if_ok (bor_ok (w_eq C ks a _ _ _ _ true (by show decide (("num" : Str) = "num") = true; decide +kernel)) (w_eq C ks a _ _ _ _ false (by show decide (("num" : Str) = "truth") = false; decide +kernel)))]; rfl)]
      rfl
    | tru x =>
      rw [seq_rt (d := .non) (M1 := mF (C 0) fs ks) (by rw [if_ok (bor_ok (w_eq C ks a _ _ _ _ false (by show decide (("truth" : Str) = "num") = false; decide +kernel)) (w_eq C ks a _ _ _ _ true (by show decide (("truth" : Str) = "truth") = true; decide +kernel)))]; rfl)]
      rfl
    | nam x =>
      rw [seq_nx (ρ1 := rR a (.nam x) (some (.str (Ex.nam x).w)) none) (M1 := mF (C 0) fs ks) (by rw [if_ok (bor_ok (w_eq C ks a _ _ _ _ false (by show decide (("name" : Str) = "num") = false; decide +kernel)) (w_eq C ks a _ _ _ _ false (by show decide (("name" : Str) = "truth") = false; decide +kernel)))]; rfl)]
      rw [if_ok (w_eq C ks a (.nam x) none fs "name" true (by show decide (("name" : Str) = "name") = true; decide +kernel)), if_pos rfl]
      have hk : eMd getD (eVar 4) (aCons (eBin ixA (eVar 1) (eC (.int 1))) (aCons (eC (.int 0)) aNil)) (rR a (.nam x) (some (.str (Ex.nam x).w)) none) (mF (C 0) fs ks) = .ok (.int (if x ∈ ks then 1 else 0)) (mF (C 0) fs ks) := by
        unfold eMd
        rw [var_ok (d := .ptr 5) rfl, Fl.bind_ok, if_pos (by rw [dctD_5]; rfl)]
        rw [acons_ok (a := .str x) (l := [.int 0]) (M1 := mF (C 0) fs ks) (M2 := mF (C 0) fs ks) ((bin_ok (a := Ex.d (.nam x)) (b := .int 1) rfl rfl).trans (ix1 _ _ _ _)) rfl, Fl.bind_ok]
        unfold getD
        rw [dctD_5]
        dsimp only
        rw [if_pos (keyB_str _), getK_ones D.str (fun _ _ => str_inj)]
        split <;> rfl
      have hb : (if x ∈ ks then (1 : Int) else 0) = 0 ∨ (if x ∈ ks then (1 : Int) else 0) = 1 := by split <;> simp
      have hm : ∀ fo : EF, eCall 2 G_mask_without (aCons (eVar 2) (aCons (eMd getD (eVar 4) (aCons (eBin ixA (eVar 1) (eC (.int 1))) (aCons (eC (.int 0)) aNil))) aNil)) (rR a (.nam x) (some (.str (Ex.nam x).w)) none) (mF (C 0) fs ks) = .ok (.int (1 - if x ∈ ks then 1 else 0)) (mF (C 0) fs ks) := fun _ =>
        call_ok (m := 2) (l := [.int 1, .int (if x ∈ ks then 1 else 0)]) (acons_ok rfl (aone_ok hk)) rfl (by simp) (g_without _ hb) trivial
      have hcall := g_note C fs ks (by have : (Ex.reads (.nam x)).length = 1 := rfl; omega) (1 - if x ∈ ks then 1 else 0) (by split <;> simp) a x
      refine (congrArg finM (ex_ok (d := .non) (meth_ok (m := 5) (k := 0) (M1 := mF (C 0) fs ks) (M2 := mF (C 0) fs ks) (l := [.int (1 - if x ∈ ks then 1 else 0), .int a, .str "unset", .str x]) rfl rfl (noat "note" (by decide +kernel) (by decide +kernel) (by decide +kernel)) (acons_ok (hm eDct) (acons_ok rfl (acons_ok rfl (aone_ok ((bin_ok (a := Ex.d (.nam x)) (b := .int 1) rfl rfl).trans (ix1 _ _ _ _)))))) rfl hcall))).trans ?_
      have e2 : (if (1 - if x ∈ ks then (1 : Int) else 0) = 0 then fs else addP fs (a, x)) = notes a ks fs [x] := by
        show _ = note1 a ks fs x
        unfold note1
        by_cases hx : x ∈ ks <;> simp [hx]
      rw [e2]
      rfl
    | ng e => cases h
    | bin o a b => cases h
  have node : ∀ (e : Ex) (g : MF) (fs : List (Int × Str)), e.leaf = false → fs.length + e.reads.length < 1000000 → e.reads = e.parts.flatMap Ex.reads →
      (∀ p ∈ e.parts, ∀ fs : List (Int × Str), fs.length + p.reads.length < 1000000 → g [.ptr 0, p.d, .int 1, .int a, .ptr 5] (mF (C 0) fs ks) = .ok .non (mF (C 0) (notes a ks fs p.reads) ks)) →
      finM (B_NameLook_reads C g (startR N_NameLook_reads [.ptr 0, e.d, .int 1, .int a, .ptr 5]) (mF (C 0) fs ks)) = .ok .non (mF (C 0) (notes a ks fs e.reads) ks) := by
    intro e g fs h hl her hp
    have hw : ¬ e.w = "num" ∧ ¬ e.w = "truth" ∧ ¬ e.w = "name" ∧ ¬ e.w = "do" ∧ ¬ e.w = "new" ∧ ¬ e.w = "of" := by
      cases e with
      | ng e => exact show ¬ (("not" : Str) = "num") ∧ ¬ (("not" : Str) = "truth") ∧ ¬ (("not" : Str) = "name") ∧ ¬ (("not" : Str) = "do") ∧ ¬ (("not" : Str) = "new") ∧ ¬ (("not" : Str) = "of") from by decide +kernel
      | bin o a b => exact op_ne o
      | _ => cases h
    have hr : e.r = e.parts.map Ex.d := by
      cases e with
      | ng e => rfl
      | bin o a b => rfl
      | _ => cases h
    unfold B_NameLook_reads
    rw [reads_pre C ks a g]
    rw [seq_nx (ρ1 := rR a e (some (.str e.w)) none) (M1 := mF (C 0) fs ks) (by rw [if_ok (bor_ok (w_eq C ks a _ _ _ _ false (nt _ _ hw.1)) (w_eq C ks a _ _ _ _ false (nt _ _ hw.2.1)))]; rfl)]
    rw [if_ok (w_eq C ks a _ _ _ _ false (nt _ _ hw.2.2.1)), if_neg Bool.false_ne_true, if_ok (w_eq C ks a _ _ _ _ false (nt _ _ hw.2.2.2.1)), if_neg Bool.false_ne_true, if_ok (w_eq C ks a _ _ _ _ false (nt _ _ hw.2.2.2.2.1)), if_neg Bool.false_ne_true, if_ok (w_eq C ks a _ _ _ _ false (nt _ _ hw.2.2.2.2.2)), if_neg Bool.false_ne_true]
    obtain ⟨ρ', M', e1, hM, k, hρ⟩ := sFor_nx (ρ := rR a e (some (.str e.w)) none) (M := mF (C 0) fs ks) (M0 := mF (C 0) fs ks) (it := ⟨e.r, none⟩) (fi := iA (eSlA (eVar 1) (oIx (eC (.int 1))) oNo)) (g := gNm 6)
      (body := sEx (eMeth (C 0) "reads" 5 g (eVar 0) (aCons (eVar 6) (aCons (eVar 2) (aCons (eVar 3) (aCons (eVar 4) aNil))))))
      (fun j ρ M => M = mF (C 0) (notes a ks fs ((e.parts.take j).flatMap Ex.reads)) ks ∧ ∃ k, ρ = rR a e (some (.str e.w)) k) (by
        unfold iA eSlA
        rw [var_ok (d := e.d) rfl, e.d_eq]
        show (Fl.ok (D.tup (cutL (D.str e.w :: e.r) (some 1) none)) (mF (C 0) fs ks)).bind _ = _
        rw [cut1]
        rfl) (by
        rintro j d ρ M hd ⟨rfl, k, rfl⟩
        refine ⟨trivial, _, rfl, rR a e (some (.str e.w)) (some d), _, .inl ?_, rfl, _, rfl⟩
        have hd : e.r[j]? = some d := hd
        rw [hr, List.getElem?_map] at hd
        cases ha : e.parts[j]? with
        | none => rw [ha] at hd; cases hd
        | some p =>
          rw [ha] at hd
          have hd : p.d = d := Option.some.inj hd
          subst hd
          have et : e.parts.take (j + 1) = e.parts.take j ++ [p] := by
            rw [List.take_add_one, ha]
            rfl
          have el : ((e.parts.take j).flatMap Ex.reads).length + p.reads.length ≤ e.reads.length := by
            rw [her]
            conv => rhs; rw [← List.take_append_drop j e.parts]
            rw [List.flatMap_append, List.length_append]
            have : e.parts.drop j = p :: e.parts.drop (j + 1) := by
              rw [List.drop_eq_getElem_cons (List.getElem?_eq_some_iff.mp ha).1, (List.getElem?_eq_some_iff.mp ha).2]
            rw [this, List.flatMap_cons, List.length_append]
            omega
          rw [et, List.flatMap_append, notes_app]
          have hn := notes_len a ks ((e.parts.take j).flatMap Ex.reads) fs
          refine ex_ok (d := .non) (meth_ok (m := 5) (k := 0) (M1 := _) (M2 := _) (l := [p.d, .int 1, .int a, .ptr 5]) rfl rfl (noat "reads" (by decide +kernel) (by decide +kernel) (by decide +kernel)) rfl rfl ((hp p (List.mem_of_getElem? ha) _ (by omega)).trans ?_))
          simp) (fun _ _ _ => trivial) ⟨rfl, none, rfl⟩
    rw [e1, hM]
    have hrl : e.r.length = e.parts.length := by rw [hr, List.length_map]
    have et : e.parts.take e.r.length = e.parts := by rw [hrl, List.take_length]
    show Fl.ok D.non (mF (C 0) (notes a ks fs ((e.parts.take e.r.length).flatMap Ex.reads)) ks) = _
    rw [et, her]
  intro e
  induction e with
  | num i => intro fuel fs h hl; obtain ⟨k, rfl⟩ : ∃ k, fuel = k + 1 := ⟨fuel - 1, by omega⟩; exact leaf (.num i) (G_NameLook_reads C k) fs rfl hl
  | tru x => intro fuel fs h hl; obtain ⟨k, rfl⟩ : ∃ k, fuel = k + 1 := ⟨fuel - 1, by omega⟩; exact leaf (.tru x) (G_NameLook_reads C k) fs rfl hl
  | nam x => intro fuel fs h hl; obtain ⟨k, rfl⟩ : ∃ k, fuel = k + 1 := ⟨fuel - 1, by omega⟩; exact leaf (.nam x) (G_NameLook_reads C k) fs rfl hl
  | ng e ih =>
    intro fuel fs h hl
    obtain ⟨k, rfl⟩ : ∃ k, fuel = k + 1 := ⟨fuel - 1, by omega⟩
    have hd : e.dep + 1 < k + 1 := h
    exact node (.ng e) (G_NameLook_reads C k) fs rfl hl (by simp [Ex.reads, Ex.parts]) fun p hp => by
      have : p = e := by simpa [Ex.parts] using hp
      subst this
      exact fun fs hfs => ih k fs (by omega) hfs
  | bin o x y ihx ihy =>
    intro fuel fs h hl
    obtain ⟨k, rfl⟩ : ∃ k, fuel = k + 1 := ⟨fuel - 1, by omega⟩
    have hd : max x.dep y.dep + 1 < k + 1 := h
    exact node (.bin o x y) (G_NameLook_reads C k) fs rfl hl (by simp [Ex.reads, Ex.parts]) fun p hp => by
      have : p = x ∨ p = y := by simpa [Ex.parts] using hp
      rcases this with rfl | rfl
      · exact fun fs hfs => ihx k fs (by omega) hfs
      · exact fun fs hfs => ihy k fs (by omega) hfs
end
end MM.Law

namespace MM.Law
open PySem PySem.Spec PyProof.Rows L2 TL
/-! ### trees -/
inductive St where
  | set (a : Int) (x : Str) (e : Ex) | tell (a : Int) (e : Ex) | ifS (a : Int) (e : Ex) (b o : List St) | whl (a : Int) (e : Ex) (b : List St)
abbrev Item := Int × Ex × Option Str
mutual
def St.d : St → D
  | .set a x e => .tup [.str "set", .int a, .str x, e.d]
  | .tell a e => .tup [.str "tell", .int a, e.d]
  | .ifS a e b o => .tup [.str "if", .int a, e.d, .lst (dL b), .lst (dL o)]
  | .whl a e b => .tup [.str "while", .int a, e.d, .lst (dL b)]
def dL : List St → List D
  | [] => []
  | s :: l => s.d :: dL l
end
mutual
def St.l : St → D
  | .set a x e => .tup [.str "set", .int a, .str x, e.d]
  | .tell a e => .tup [.str "tell", .int a, e.d]
  | .ifS a e b o => .tup [.str "if", .int a, e.d, .lst (lL b), .lst (lL o)]
  | .whl a e b => .tup [.str "while", .int a, e.d, .lst (lL b)]
def lL : List St → List D
  | [] => []
  | s :: l => .tup [.int 1, s.l] :: lL l
end
mutual
def St.nest : St → Nat
  | .set _ _ _ => 0
  | .tell _ _ => 0
  | .ifS _ _ b o => max (nestL b) (nestL o) + 1
  | .whl _ _ b => nestL b + 1
def nestL : List St → Nat
  | [] => 0
  | s :: l => max s.nest (nestL l)
end
mutual
def St.pre : St → List Item
  | .set a x e => [(a, e, some x)]
  | .tell a e => [(a, e, none)]
  | .ifS a e b o => (a, e, none) :: (preL b ++ preL o)
  | .whl a e b => (a, e, none) :: preL b
def preL : List St → List Item
  | [] => []
  | s :: l => s.pre ++ preL l
end
mutual
theorem St.bnd (n : Nat) : ∀ s : St, MM.bnd n s.d
  | .set _ _ e => ⟨trivial, trivial, trivial, e.bnd n, trivial⟩
  | .tell _ e => ⟨trivial, trivial, e.bnd n, trivial⟩
  | .ifS _ e b o => ⟨trivial, trivial, e.bnd n, dL_bnd n b, dL_bnd n o, trivial⟩
  | .whl _ e b => ⟨trivial, trivial, e.bnd n, dL_bnd n b, trivial⟩
theorem dL_bnd (n : Nat) : ∀ l : List St, bndL n (dL l)
  | [] => trivial
  | s :: l => ⟨St.bnd n s, dL_bnd n l⟩
end
mutual
theorem St.lbnd (n : Nat) : ∀ s : St, MM.bnd n s.l
  | .set _ _ e => ⟨trivial, trivial, trivial, e.bnd n, trivial⟩
  | .tell _ e => ⟨trivial, trivial, e.bnd n, trivial⟩
  | .ifS _ e b o => ⟨trivial, trivial, e.bnd n, lL_bnd n b, lL_bnd n o, trivial⟩
  | .whl _ e b => ⟨trivial, trivial, e.bnd n, lL_bnd n b, trivial⟩
theorem lL_bnd (n : Nat) : ∀ l : List St, bndL n (lL l)
  | [] => trivial
  | s :: l => ⟨⟨trivial, St.lbnd n s, trivial⟩, lL_bnd n l⟩
end
theorem dL_map : ∀ l : List St, dL l = l.map St.d
  | [] => rfl
  | s :: l => by rw [List.map_cons, ← dL_map l]; rfl
theorem lL_map : ∀ l : List St, lL l = l.map fun s => .tup [.int 1, s.l]
  | [] => rfl
  | s :: l => by rw [List.map_cons, ← lL_map l]; rfl
theorem preL_app : ∀ a b : List St, preL (a ++ b) = preL a ++ preL b
  | [], b => rfl
  | s :: a, b => by
    show s.pre ++ preL (a ++ b) = (s.pre ++ preL a) ++ preL b
    rw [preL_app a b, List.append_assoc]
theorem St.pre_pos : ∀ s : St, 1 ≤ s.pre.length
  | .set _ _ _ => Nat.le_refl _
  | .tell _ _ => Nat.le_refl _
  | .ifS _ _ _ _ => by show 1 ≤ _ + 1; omega
  | .whl _ _ _ => by show 1 ≤ _ + 1; omega
theorem preL_len : ∀ l : List St, l.length ≤ (preL l).length
  | [] => Nat.le_refl _
  | s :: l => by
    have h1 := s.pre_pos
    have h2 := preL_len l
    show l.length + 1 ≤ (s.pre ++ preL l).length
    rw [List.length_append]
    omega
theorem nest_mem : ∀ {l : List St} {s : St}, s ∈ l → s.nest ≤ nestL l
  | t :: l, s, h => by
    rcases List.mem_cons.mp h with rfl | h
    · exact Nat.le_max_left _ _
    · exact Nat.le_trans (nest_mem h) (Nat.le_max_right _ _)
/-! ### lifted_tree -/
theorem cutT3 (a b c : D) (l : List D) : cutL (a :: b :: c :: l) none (some 3) = [a, b, c] := by
  unfold cutL
  have : HT.sIx (a :: b :: c :: l).length (a :: b :: c :: l).length (some 3) = 3 := by
    simp [HT.sIx]
  rw [this]
  simp [HT.sIx]
theorem lift_ok : ∀ (fuel : Nat) (ss : List St), nestL ss < fuel → (preL ss).length < 1000000 → G_lifted_tree fuel [.lst (dL ss)] = .ok (.lst (lL ss)) := by
  intro fuel
  induction fuel with
  | zero => intro ss h; omega
  | succ fuel ih =>
    intro ss hn hs
    show fin (B_lifted_tree (G_lifted_tree fuel) (startR N_lifted_tree [.lst (dL ss)]) []) = _
    unfold B_lifted_tree
    rw [show startR N_lifted_tree [.lst (dL ss)] = [some (.lst (dL ss)), none, none, none] from rfl]
    rw [seq_nx (ρ1 := [some (.lst (dL ss)), some (.ptr 0), none, none]) (M1 := [.lst []]) rfl]
    generalize hB : sSeq (sSet 3 (eBin ixA (eVar 2) (eC (.int 0)))) _ = body
    obtain ⟨ρ', M', e1, hM, u, v, hρ⟩ := sFor_nx (ρ := [some (.lst (dL ss)), some (.ptr 0), none, none]) (M := [.lst []]) (M0 := [.lst []]) (it := ⟨dL ss, none⟩) (fi := iA (eVar 0)) (g := gNm 2) (body := body)
      (fun j ρ M => M = [.lst (lL (ss.take j))] ∧ ∃ u v, ρ = [some (.lst (dL ss)), some (.ptr 0), u, v]) rfl (by
        rintro j d ρ M hd ⟨rfl, u, v, rfl⟩
        have hd : (dL ss)[j]? = some d := hd
        rw [dL_map, List.getElem?_map] at hd
        cases hs2 : ss[j]? with
        | none => rw [hs2] at hd; cases hd
        | some s =>
          rw [hs2] at hd
          have hd : s.d = d := Option.some.inj hd
          subst hd
          have hm := List.mem_of_getElem? hs2
          have hj : j < ss.length := (List.getElem?_eq_some_iff.mp hs2).1
          have et : ss.take (j + 1) = ss.take j ++ [s] := by
            rw [List.take_add_one, hs2]
            rfl
          have hl : (lL (ss.take j)).length < 1000000 := by
            have := preL_len ss
            rw [lL_map, List.length_map, List.length_take]
            omega
          have hp : ∀ t ∈ ss, (t.pre).length ≤ (preL ss).length := by
            have : ∀ (l : List St) (t : St), t ∈ l → t.pre.length ≤ (preL l).length := by
              intro l
              induction l with
              | nil => intro t h; cases h
              | cons x l ih =>
                intro t h
                show _ ≤ (x.pre ++ preL l).length
                rw [List.length_append]
                rcases List.mem_cons.mp h with rfl | h
                · omega
                · have := ih t h
                  omega
            exact this ss
          have hns := nest_mem hm
          have hps := hp s hm
          refine ⟨trivial, _, rfl, [some (.lst (dL ss)), some (.ptr 0), some s.l, some (.str (match s with | .set _ _ _ => "set" | .tell _ _ => "tell" | .ifS _ _ _ _ => "if" | .whl _ _ _ => "while"))], [.lst (lL (ss.take j) ++ [.tup [.int 1, s.l]])], .inl ?_, ?_, _, _, rfl⟩
          · have app : ∀ w : Str, sEx (eMt "list" appD (eVar 1) (aCons (eCa tupD (aCons (eC (.int 1)) (aCons (eVar 2) aNil))) aNil)) [some (.lst (dL ss)), some (.ptr 0), some s.l, some (.str w)] [.lst (lL (ss.take j))] = .ok (.nx [some (.lst (dL ss)), some (.ptr 0), some s.l, some (.str w)]) [.lst (lL (ss.take j) ++ [.tup [.int 1, s.l]])] := fun w =>
              ex_ok (d := .non) ((eMt_ok (a := .ptr 0) (l := [.tup [.int 1, s.l]]) (M1 := [.lst (lL (ss.take j))]) (M2 := [.lst (lL (ss.take j))]) rfl rfl rfl).trans (app_ptr (l := lL (ss.take j)) rfl hl))
            have ne : ∀ x y : Str, ¬ x = y → decide (x = y) = false := fun x y h => by simpa using h
            subst hB
            cases s with
            | set a x e =>
              rw [seq_nx (ρ1 := [some (.lst (dL ss)), some (.ptr 0), some (St.d (.set a x e)), some (.str "set")]) (M1 := [.lst (lL (ss.take j))]) rfl]
              rw [seq_nx (ρ1 := [some (.lst (dL ss)), some (.ptr 0), some (St.d (.set a x e)), some (.str "set")]) (M1 := [.lst (lL (ss.take j))]) (by
                rw [if_ok (beqS_ok (i := "set") (j := "if") (k := false) rfl rfl (by decide +kernel)), if_neg Bool.false_ne_true, if_ok (beqS_ok (i := "set") (j := "while") (k := false) rfl rfl (by decide +kernel)), if_neg Bool.false_ne_true, if_ok (beqS_ok (i := "set") (j := "def") (k := false) rfl rfl (by decide +kernel)), if_neg Bool.false_ne_true]
                rfl)]
              exact app "set"
            | tell a e =>
              rw [seq_nx (ρ1 := [some (.lst (dL ss)), some (.ptr 0), some (St.d (.tell a e)), some (.str "tell")]) (M1 := [.lst (lL (ss.take j))]) rfl]
              rw [seq_nx (ρ1 := [some (.lst (dL ss)), some (.ptr 0), some (St.d (.tell a e)), some (.str "tell")]) (M1 := [.lst (lL (ss.take j))]) (by
                rw [if_ok (beqS_ok (i := "tell") (j := "if") (k := false) rfl rfl (by decide +kernel)), if_neg Bool.false_ne_true, if_ok (beqS_ok (i := "tell") (j := "while") (k := false) rfl rfl (by decide +kernel)), if_neg Bool.false_ne_true, if_ok (beqS_ok (i := "tell") (j := "def") (k := false) rfl rfl (by decide +kernel)), if_neg Bool.false_ne_true]
                rfl)]
              exact app "tell"
            | ifS a e b o =>
              have hb : max (nestL b) (nestL o) + 1 ≤ nestL ss := hns
              have hpl : (preL b ++ preL o).length + 1 ≤ (preL ss).length := hps
              rw [List.length_append] at hpl
              have ib := ih b (by omega) (by omega)
              have io := ih o (by omega) (by omega)
              rw [seq_nx (ρ1 := [some (.lst (dL ss)), some (.ptr 0), some (St.d (.ifS a e b o)), some (.str "if")]) (M1 := [.lst (lL (ss.take j))]) rfl]
              rw [seq_nx (ρ1 := [some (.lst (dL ss)), some (.ptr 0), some (St.l (.ifS a e b o)), some (.str "if")]) (M1 := [.lst (lL (ss.take j))]) (by
                rw [if_ok (beqS_ok (i := "if") (j := "if") (k := true) rfl rfl (by decide +kernel)), if_pos rfl]
                refine set_ok ((bin_ok (a := .tup [.str "if", .int a, e.d]) (b := .tup [.lst (lL b), .lst (lL o)]) (M1 := [.lst (lL (ss.take j))]) (M2 := [.lst (lL (ss.take j))]) ?_ ?_).trans ?_)
                · show (Fl.ok (D.tup (cutL [.str "if", .int a, e.d, .lst (dL b), .lst (dL o)] none (some 3))) _) = _
                  rw [cutT3]
                · refine (ca_ok (l := [.lst (lL b), .lst (lL o)]) (acons_ok (call_ok (m := 1) (l := [.lst (dL b)]) (aone_ok ((bin_ok (a := St.d (.ifS a e b o)) (b := .int 3) rfl rfl).trans (ix3 _ _ _ _ _ _))) rfl ⟨dL_bnd 0 b, trivial⟩ ib (lL_bnd 0 b)) (aone_ok (call_ok (m := 1) (l := [.lst (dL o)]) (aone_ok ((bin_ok (a := St.d (.ifS a e b o)) (b := .int 4) rfl rfl).trans (ix4 _ _ _ _ _ _ _))) rfl ⟨dL_bnd 0 o, trivial⟩ io (lL_bnd 0 o))))).trans rfl
                · rw [addA_tup, if_pos (by show 3 + 2 ≤ 1000000; omega)]
                  rfl)]
              exact app "if"
            | whl a e b =>
              have hb : nestL b + 1 ≤ nestL ss := hns
              have hpl : (preL b).length + 1 ≤ (preL ss).length := hps
              have ib := ih b (by omega) (by omega)
              rw [seq_nx (ρ1 := [some (.lst (dL ss)), some (.ptr 0), some (St.d (.whl a e b)), some (.str "while")]) (M1 := [.lst (lL (ss.take j))]) rfl]
              rw [seq_nx (ρ1 := [some (.lst (dL ss)), some (.ptr 0), some (St.l (.whl a e b)), some (.str "while")]) (M1 := [.lst (lL (ss.take j))]) (by
                rw [if_ok (beqS_ok (i := "while") (j := "if") (k := false) rfl rfl (by decide +kernel)), if_neg Bool.false_ne_true, if_ok (beqS_ok (i := "while") (j := "while") (k := true) rfl rfl (by decide +kernel)), if_pos rfl]
                refine set_ok ((bin_ok (a := .tup [.str "while", .int a, e.d]) (b := .tup [.lst (lL b)]) (M1 := [.lst (lL (ss.take j))]) (M2 := [.lst (lL (ss.take j))]) ?_ ?_).trans ?_)
                · show (Fl.ok (D.tup (cutL [.str "while", .int a, e.d, .lst (dL b)] none (some 3))) _) = _
                  rw [cutT3]
                · refine (ca_ok (l := [.lst (lL b)]) (aone_ok (call_ok (m := 1) (l := [.lst (dL b)]) (aone_ok ((bin_ok (a := St.d (.whl a e b)) (b := .int 3) rfl rfl).trans (ix3 _ _ _ _ _ _))) rfl ⟨dL_bnd 0 b, trivial⟩ ib (lL_bnd 0 b)))).trans rfl
                · rw [addA_tup, if_pos (by show 3 + 1 ≤ 1000000; omega)]
                  rfl)]
              exact app "while"
          · rw [et, lL_map, lL_map, List.map_append]
            rfl) (fun _ _ _ => trivial) ⟨rfl, none, none, rfl⟩
    rw [seq_nx e1, hM, hρ]
    have et : ss.take (dL ss).length = ss := by rw [dL_map, List.length_map, List.take_length]
    refine (congrArg fin (ret_ok (d := .ptr 0) (M1 := [.lst (lL (ss.take (dL ss).length))]) rfl)).trans ?_
    rw [fin_ptr (l := lL (ss.take (dL ss).length)) rfl (lL_bnd 0 _), et]
end MM.Law

namespace MM.Law
open PySem PySem.Spec PyProof.Rows L2 TL
/-! ### the walk -/
abbrev Look := List (Int × Str) × List Str
def run1 (st : Look) (i : Item) : Look := (notes i.1 st.2 st.1 i.2.1.reads, match i.2.2 with
  | some x => addP st.2 x
  | none => st.2)
def run (st : Look) (is : List Item) : Look := is.foldl run1 st
def cost : List Item → Nat
  | [] => 0
  | i :: is => i.2.1.reads.length + 1 + cost is
theorem cost_app : ∀ a b : List Item, cost (a ++ b) = cost a + cost b
  | [], b => by simp [cost]
  | i :: a, b => by
    show i.2.1.reads.length + 1 + cost (a ++ b) = i.2.1.reads.length + 1 + cost a + cost b
    rw [cost_app a b]
    omega
theorem run_app (st : Look) (a b : List Item) : run st (a ++ b) = run (run st a) b := List.foldl_append
theorem run1_le (st : Look) (i : Item) : (run1 st i).1.length ≤ st.1.length + (i.2.1.reads.length + 1) ∧ (run1 st i).2.length ≤ st.2.length + (i.2.1.reads.length + 1) := by
  have h := notes_len i.1 st.2 i.2.1.reads st.1
  refine ⟨by show (notes _ _ _ _).length ≤ _; omega, ?_⟩
  obtain ⟨a, e, x⟩ := i
  cases x with
  | none => show st.2.length ≤ _; omega
  | some x =>
    have := addP_len st.2 x
    show (addP st.2 x).length ≤ _
    omega
theorem run_le : ∀ (is : List Item) (st : Look), (run st is).1.length ≤ st.1.length + cost is ∧ (run st is).2.length ≤ st.2.length + cost is
  | [], st => ⟨Nat.le_refl _, Nat.le_refl _⟩
  | i :: is, st => by
    have h := run_le is (run1 st i)
    have h2 := run1_le st i
    refine ⟨?_, ?_⟩
    · show (run (run1 st i) is).1.length ≤ st.1.length + (i.2.1.reads.length + 1 + cost is)
      omega
    · show (run (run1 st i) is).2.length ≤ st.2.length + (i.2.1.reads.length + 1 + cost is)
      omega
abbrev mS (C : Addr) (st : Look) : Mem := mF C st.1 st.2
/-- all EXPRs are shallow -/
def dpI (is : List Item) : Prop := ∀ i ∈ is, i.2.1.dep ≤ 3
theorem cutT3b (a b c : D) (l : List D) : cutL (a :: b :: c :: l) (some 3) none = l := by
  unfold cutL
  simp [HT.sIx]
def St.blocks : St → List (List St)
  | .ifS _ _ b o => [b, o]
  | .whl _ _ b => [b]
  | _ => []
section
variable (C : Nat → Addr)
def rS (s : D) (w a b : Option D) : Ro := [some (.ptr 0), some s, some (.int 1), some (.ptr 5), w, a, b]
theorem call_reads (at_ : Int) (e : Ex) (he : e.dep ≤ 3) (ρ : Ro) (fe : EF) (h0 : ρ[0]? = some (some (.ptr 0))) (h2 : ρ[2]? = some (some (.int 1))) (h3 : ρ[3]? = some (some (.ptr 5))) (h5 : ρ[5]? = some (some (.int at_))) (st : Look) (hfe : fe ρ (mS (C 0) st) = .ok e.d (mS (C 0) st)) (hc : st.1.length + e.reads.length < 1000000) :
    sEx (eMeth (C 0) "reads" 5 (G_NameLook_reads C 6) (eVar 0) (aCons fe (aCons (eVar 2) (aCons (eVar 5) (aCons (eVar 3) aNil))))) ρ (mS (C 0) st) = .ok (.nx ρ) (mF (C 0) (notes at_ st.2 st.1 e.reads) st.2) :=
  ex_ok (d := .non) (meth_ok (m := 5) (k := 0) (M1 := mS (C 0) st) (M2 := mS (C 0) st) (l := [e.d, .int 1, .int at_, .ptr 5]) (var_ok h0) rfl (noat "reads" (by decide +kernel) (by decide +kernel) (by decide +kernel)) (acons_ok hfe (acons_ok (var_ok h2) (acons_ok (var_ok h5) (aone_ok (var_ok h3))))) rfl (look_reads C st.2 at_ e 6 st.1 (by omega) hc))
theorem step_tail (gw : MF) (at_ : Int) (e : Ex) (s : D) (w : Str) (rest : List D) (hs : s = .tup (.str w :: .int at_ :: e.d :: rest)) (he : e.dep ≤ 3) (blocks : List (List St)) (hr : rest = blocks.map fun b => .lst (lL b)) (st : Look)
    (hc : st.1.length + (e.reads.length + 1 + cost (blocks.flatMap preL)) < 1000000 ∧ st.2.length + (e.reads.length + 1 + cost (blocks.flatMap preL)) < 1000000)
    (hw : ∀ b ∈ blocks, ∀ st : Look, st.1.length + cost (preL b) < 1000000 → st.2.length + cost (preL b) < 1000000 → gw [.ptr 0, .lst (lL b), .int 1, .ptr 5] (mS (C 0) st) = .ok .non (mS (C 0) (run st (preL b)))) :
    ∃ k, sSeq (sEx (eMeth (C 0) "reads" 5 (G_NameLook_reads C 6) (eVar 0) (aCons (eBin ixA (eVar 1) (eC (.int 2))) (aCons (eVar 2) (aCons (eVar 5) (aCons (eVar 3) aNil))))))
      (sFor (iA (eSlA (eVar 1) (oIx (eC (.int 3))) oNo)) (gNm 6) (sEx (eMeth (C 0) "walk" 4 gw (eVar 0) (aCons (eVar 6) (aCons (eVar 2) (aCons (eVar 3) aNil))))))
      (rS s (some (.str w)) (some (.int at_)) none) (mS (C 0) st) = .ok (.nx (rS s (some (.str w)) (some (.int at_)) k)) (mS (C 0) (run (run1 st (at_, e, none)) (blocks.flatMap preL))) := by
  rw [seq_nx (call_reads C at_ e he (rS s (some (.str w)) (some (.int at_)) none) (eBin ixA (eVar 1) (eC (.int 2))) rfl rfl rfl rfl st ((bin_ok (a := s) (b := .int 2) rfl rfl).trans (by rw [hs]; exact ix2 _ _ _ _ _)) (by omega))]
  have hrl : rest.length = blocks.length := by rw [hr, List.length_map]
  have h1 := run1_le st (at_, e, none)
  have h1 : (run1 st (at_, e, none)).1.length ≤ st.1.length + (e.reads.length + 1) ∧ (run1 st (at_, e, none)).2.length ≤ st.2.length + (e.reads.length + 1) := h1
  obtain ⟨ρ', M', e1, hM, k, hρ⟩ := sFor_nx (ρ := rS s (some (.str w)) (some (.int at_)) none) (M := mS (C 0) (run1 st (at_, e, none))) (M0 := mF (C 0) (notes at_ st.2 st.1 e.reads) st.2) (it := ⟨rest, none⟩) (fi := iA (eSlA (eVar 1) (oIx (eC (.int 3))) oNo)) (g := gNm 6)
    (body := sEx (eMeth (C 0) "walk" 4 gw (eVar 0) (aCons (eVar 6) (aCons (eVar 2) (aCons (eVar 3) aNil)))))
    (fun j ρ M => M = mS (C 0) (run (run1 st (at_, e, none)) ((blocks.take j).flatMap preL)) ∧ ∃ k, ρ = rS s (some (.str w)) (some (.int at_)) k) (by
      unfold iA eSlA
      rw [var_ok (d := s) rfl, hs]
      show (Fl.ok (D.tup (cutL (D.str w :: .int at_ :: e.d :: rest) (some 3) none)) _).bind _ = _
      rw [cutT3b]
      rfl) (by
      rintro j d ρ M hd ⟨rfl, k, rfl⟩
      have hd : rest[j]? = some d := hd
      rw [hr, List.getElem?_map] at hd
      cases hb : blocks[j]? with
      | none => rw [hb] at hd; cases hd
      | some b =>
        rw [hb] at hd
        have hd : D.lst (lL b) = d := Option.some.inj hd
        subst hd
        have et : blocks.take (j + 1) = blocks.take j ++ [b] := by
          rw [List.take_add_one, hb]
          rfl
        refine ⟨trivial, _, rfl, rS s (some (.str w)) (some (.int at_)) (some (.lst (lL b))), _, .inl ?_, rfl, _, rfl⟩
        rw [et, List.flatMap_append, run_app]
        have hr2 := run_le ((blocks.take j).flatMap preL) (run1 st (at_, e, none))
        have hcs : cost ((blocks.take j).flatMap preL) + cost (preL b) ≤ cost (blocks.flatMap preL) := by
          conv => rhs; rw [← List.take_append_drop j blocks]
          rw [List.flatMap_append, cost_app]
          have : blocks.drop j = b :: blocks.drop (j + 1) := by
            rw [List.drop_eq_getElem_cons (List.getElem?_eq_some_iff.mp hb).1, (List.getElem?_eq_some_iff.mp hb).2]
          rw [this, List.flatMap_cons, cost_app]
          omega
        refine ex_ok (d := .non) (meth_ok (m := 4) (k := 0) (M1 := _) (M2 := _) (l := [.lst (lL b), .int 1, .ptr 5]) rfl rfl (noat "walk" (by decide +kernel) (by decide +kernel) (by decide +kernel)) rfl rfl ((hw b (List.mem_of_getElem? hb) _ (by omega) (by omega)).trans ?_))
        simp) (fun _ _ _ => trivial) ⟨rfl, none, rfl⟩
  refine ⟨k, ?_⟩
  rw [e1, hM, hρ]
  show Fl.ok _ (mS (C 0) (run (run1 st (at_, e, none)) ((blocks.take rest.length).flatMap preL))) = _
  rw [hrl, List.take_length]
theorem or1 {b : Int} (h : b = 0 ∨ b = 1) : Builtin.bitOr b 1 = 1 := by rcases h with rfl | rfl <;> decide +kernel
theorem look_ok : ∀ n : Nat, (∀ (s : St) (st : Look), 2 * s.nest + 1 ≤ n → dpI s.pre → st.1.length + cost s.pre < 1000000 → st.2.length + cost s.pre < 1000000 → G_NameLook_step C n [.ptr 0, s.l, .int 1, .ptr 5] (mS (C 0) st) = .ok .non (mS (C 0) (run st s.pre))) ∧
    (∀ (ss : List St) (st : Look), 2 * nestL ss + 2 ≤ n → dpI (preL ss) → st.1.length + cost (preL ss) < 1000000 → st.2.length + cost (preL ss) < 1000000 → G_NameLook_walk C n [.ptr 0, .lst (lL ss), .int 1, .ptr 5] (mS (C 0) st) = .ok .non (mS (C 0) (run st (preL ss)))) := by
  intro n
  induction n with
  | zero => exact ⟨fun s st h => by omega, fun ss st h => by omega⟩
  | succ n ih =>
    obtain ⟨ihs, ihw⟩ := ih
    refine ⟨fun s st hn hd hc1 hc2 => ?_, fun ss st hn hd hc1 hc2 => ?_⟩
    · rw [show G_NameLook_step C (n + 1) = fun ds M => finM (B_NameLook_step C (G_NameLook_walk C n) (G_NameLook_define C n) (startR N_NameLook_step ds) M) from rfl]
      dsimp only
      unfold B_NameLook_step
      rw [show startR N_NameLook_step [.ptr 0, s.l, .int 1, .ptr 5] = rS s.l none none none from rfl]
      cases s with
      | set a x e =>
        rw [seq_nx (ρ1 := rS (St.l (.set a x e)) (some (.str "set")) none none) (M1 := mS (C 0) st) (set_ok ((bin_ok (a := St.l (.set a x e)) (b := .int 0) rfl rfl).trans (ix0 _ _ _)))]
        rw [seq_nx (ρ1 := rS (St.l (.set a x e)) (some (.str "set")) (some (.int a)) none) (M1 := mS (C 0) st) (set_ok ((bin_ok (a := St.l (.set a x e)) (b := .int 1) rfl rfl).trans (ix1 _ _ _ _)))]
        rw [if_ok (beqS_ok (i := "set") (j := "def") (k := false) rfl rfl (by decide +kernel)), if_neg Bool.false_ne_true, if_ok (beqS_ok (i := "set") (j := "set") (k := true) rfl rfl (by decide +kernel)), if_pos rfl]
        have he : e.dep ≤ 3 := hd (a, e, some x) (by simp [St.pre])
        have hcc : cost (St.pre (.set a x e)) = e.reads.length + 1 + 0 := rfl
        rw [seq_nx (call_reads C a e he (rS (St.l (.set a x e)) (some (.str "set")) (some (.int a)) none) (eBin ixA (eVar 1) (eC (.int 3))) rfl rfl rfl rfl st ((bin_ok (a := St.l (.set a x e)) (b := .int 3) rfl rfl).trans (ix3 _ _ _ _ _ _)) (by omega))]
        generalize hfs : notes a st.2 st.1 e.reads = fs
        have hk : eMd getD (eVar 3) (aCons (eBin ixA (eVar 1) (eC (.int 2))) (aCons (eC (.int 0)) aNil)) (rS (St.l (.set a x e)) (some (.str "set")) (some (.int a)) none) (mF (C 0) fs st.2) = .ok (.int (if x ∈ st.2 then 1 else 0)) (mF (C 0) fs st.2) := by
          unfold eMd
          rw [var_ok (d := .ptr 5) rfl, Fl.bind_ok, if_pos (by rw [dctD_5]; rfl)]
          rw [acons_ok (a := .str x) (l := [.int 0]) (M1 := mF (C 0) fs st.2) (M2 := mF (C 0) fs st.2) ((bin_ok (a := St.l (.set a x e)) (b := .int 2) rfl rfl).trans (ix2 _ _ _ _ _)) rfl, Fl.bind_ok]
          unfold getD
          rw [dctD_5]
          dsimp only
          rw [if_pos (keyB_str _), getK_ones D.str (fun _ _ => str_inj)]
          split <;> rfl
        have hb : (if x ∈ st.2 then (1 : Int) else 0) = 0 ∨ (if x ∈ st.2 then (1 : Int) else 0) = 1 := by split <;> simp
        have ho : eBin orD (eMd getD (eVar 3) (aCons (eBin ixA (eVar 1) (eC (.int 2))) (aCons (eC (.int 0)) aNil))) (eVar 2) (rS (St.l (.set a x e)) (some (.str "set")) (some (.int a)) none) (mF (C 0) fs st.2) = .ok (.int 1) (mF (C 0) fs st.2) := by
          refine (bin_ok hk rfl (b := .int 1)).trans ?_
          show Fl.ok (D.int (Builtin.bitOr _ 1)) _ = _
          rw [or1 hb]
        unfold sSetA
        rw [ho, Fl.bind_ok, var_ok (d := .ptr 5) rfl, Fl.bind_ok]
        rw [(bin_ok (op := ixA) (fa := eVar 1) (fb := eC (.int 2)) (ρ := rS (St.l (.set a x e)) (some (.str "set")) (some (.int a)) none) (M := mF (C 0) fs st.2) (a := St.l (.set a x e)) (b := .int 2) rfl rfl).trans (ix2 _ _ _ _ _), Fl.bind_ok]
        have hs : setD (.ptr 5) (.str x) (.int 1) (mF (C 0) fs st.2) = some (mF (C 0) fs (addP st.2 x)) := by
          unfold setD
          dsimp only
          rw [show (mF (C 0) fs st.2)[5]? = some (.dct (st.2.map fun x => (D.str x, D.int 1))) from rfl]
          dsimp only
          rw [if_pos ⟨keyB_str _, by rw [List.length_map]; omega⟩, putK_ones D.str (fun _ _ => str_inj)]
          rfl
        rw [hs]
        show Fl.ok D.non (mF (C 0) fs (addP st.2 x)) = Fl.ok D.non (mF (C 0) (notes a st.2 st.1 e.reads) (addP st.2 x))
        rw [hfs]
      | tell a e =>
        rw [seq_nx (ρ1 := rS (St.l (.tell a e)) (some (.str "tell")) none none) (M1 := mS (C 0) st) (set_ok ((bin_ok (a := St.l (.tell a e)) (b := .int 0) rfl rfl).trans (ix0 _ _ _)))]
        rw [seq_nx (ρ1 := rS (St.l (.tell a e)) (some (.str "tell")) (some (.int a)) none) (M1 := mS (C 0) st) (set_ok ((bin_ok (a := St.l (.tell a e)) (b := .int 1) rfl rfl).trans (ix1 _ _ _ _)))]
        rw [if_ok (beqS_ok (i := "tell") (j := "def") (k := false) rfl rfl (by decide +kernel)), if_neg Bool.false_ne_true, if_ok (beqS_ok (i := "tell") (j := "set") (k := false) rfl rfl (by decide +kernel)), if_neg Bool.false_ne_true, if_ok (bneS_ok (i := "tell") (j := "kind") (k := true) rfl rfl (by decide +kernel)), if_pos rfl]
        have hcc : cost (St.pre (.tell a e)) = e.reads.length + 1 + 0 := rfl
        obtain ⟨k, hk⟩ := step_tail C (G_NameLook_walk C n) a e (St.l (.tell a e)) "tell" [] rfl (hd (a, e, none) (by simp [St.pre])) [] rfl st ⟨by simp [cost]; omega, by simp [cost]; omega⟩ (fun b hb => nomatch hb)
        rw [hk]
        rfl
      | ifS a e b o =>
        rw [seq_nx (ρ1 := rS (St.l (.ifS a e b o)) (some (.str "if")) none none) (M1 := mS (C 0) st) (set_ok ((bin_ok (a := St.l (.ifS a e b o)) (b := .int 0) rfl rfl).trans (ix0 _ _ _)))]
        rw [seq_nx (ρ1 := rS (St.l (.ifS a e b o)) (some (.str "if")) (some (.int a)) none) (M1 := mS (C 0) st) (set_ok ((bin_ok (a := St.l (.ifS a e b o)) (b := .int 1) rfl rfl).trans (ix1 _ _ _ _)))]
        rw [if_ok (beqS_ok (i := "if") (j := "def") (k := false) rfl rfl (by decide +kernel)), if_neg Bool.false_ne_true, if_ok (beqS_ok (i := "if") (j := "set") (k := false) rfl rfl (by decide +kernel)), if_neg Bool.false_ne_true, if_ok (bneS_ok (i := "if") (j := "kind") (k := true) rfl rfl (by decide +kernel)), if_pos rfl]
        have hcc : cost (St.pre (.ifS a e b o)) = e.reads.length + 1 + cost (preL b ++ preL o) := rfl
        have hnn : 2 * (max (nestL b) (nestL o) + 1) + 1 ≤ n + 1 := hn
        have hd2 : ∀ i ∈ preL b ++ preL o, i.2.1.dep ≤ 3 := fun i hi => hd i (List.mem_cons_of_mem _ hi)
        have hfl : [b, o].flatMap preL = preL b ++ preL o := by simp
        obtain ⟨k, hk⟩ := step_tail C (G_NameLook_walk C n) a e (St.l (.ifS a e b o)) "if" [.lst (lL b), .lst (lL o)] rfl (hd (a, e, none) (by simp [St.pre])) [b, o] rfl st (by rw [hfl]; omega) (fun c hc st h1 h2 => by
          rcases List.mem_cons.mp hc with rfl | hc
          · exact ihw c st (by omega) (fun i hi => hd2 i (List.mem_append_left _ hi)) h1 h2
          · have : c = o := by simpa using hc
            subst this
            exact ihw c st (by omega) (fun i hi => hd2 i (List.mem_append_right _ hi)) h1 h2)
        rw [hk, hfl]
        rfl
      | whl a e b =>
        rw [seq_nx (ρ1 := rS (St.l (.whl a e b)) (some (.str "while")) none none) (M1 := mS (C 0) st) (set_ok ((bin_ok (a := St.l (.whl a e b)) (b := .int 0) rfl rfl).trans (ix0 _ _ _)))]
        rw [seq_nx (ρ1 := rS (St.l (.whl a e b)) (some (.str "while")) (some (.int a)) none) (M1 := mS (C 0) st) (set_ok ((bin_ok (a := St.l (.whl a e b)) (b := .int 1) rfl rfl).trans (ix1 _ _ _ _)))]
        rw [if_ok (beqS_ok (i := "while") (j := "def") (k := false) rfl rfl (by decide +kernel)), if_neg Bool.false_ne_true, if_ok (beqS_ok (i := "while") (j := "set") (k := false) rfl rfl (by decide +kernel)), if_neg Bool.false_ne_true, if_ok (bneS_ok (i := "while") (j := "kind") (k := true) rfl rfl (by decide +kernel)), if_pos rfl]
        have hcc : cost (St.pre (.whl a e b)) = e.reads.length + 1 + cost (preL b) := rfl
        have hnn : 2 * (nestL b + 1) + 1 ≤ n + 1 := hn
        have hfl : [b].flatMap preL = preL b := by simp
        obtain ⟨k, hk⟩ := step_tail C (G_NameLook_walk C n) a e (St.l (.whl a e b)) "while" [.lst (lL b)] rfl (hd (a, e, none) (by simp [St.pre])) [b] rfl st (by rw [hfl]; omega) (fun c hc st h1 h2 => by
          have : c = b := by simpa using hc
          subst this
          exact ihw c st (by omega) (fun i hi => hd i (List.mem_cons_of_mem _ hi)) h1 h2)
        rw [hk, hfl]
        rfl
    · rw [show G_NameLook_walk C (n + 1) = fun ds M => finM (B_NameLook_walk C (G_NameLook_step C n) (startR N_NameLook_walk ds) M) from rfl]
      dsimp only
      unfold B_NameLook_walk
      rw [show startR N_NameLook_walk [.ptr 0, .lst (lL ss), .int 1, .ptr 5] = [some (.ptr 0), some (.lst (lL ss)), some (.int 1), some (.ptr 5), none, none] from rfl]
      obtain ⟨ρ', M', e1, hM, u, v, hρ⟩ := sFor_nx (ρ := [some (.ptr 0), some (.lst (lL ss)), some (.int 1), some (.ptr 5), none, none]) (M := mS (C 0) st) (M0 := mS (C 0) st) (it := ⟨lL ss, none⟩) (fi := iA (eVar 1)) (g := gTp 2 (gC (gNm 4) (gC (gNm 5) gN)))
        (body := sSeq (sSet 4 (eBin andD (eVar 4) (eVar 2))) (sIf (bOf (eBin neD (eVar 4) (eC (.int 0)))) (sEx (eMeth (C 0) "step" 4 (G_NameLook_step C n) (eVar 0) (aCons (eVar 5) (aCons (eVar 4) (aCons (eVar 3) aNil))))) sNext))
        (fun j ρ M => M = mS (C 0) (run st (preL (ss.take j))) ∧ ∃ u v, ρ = [some (.ptr 0), some (.lst (lL ss)), some (.int 1), some (.ptr 5), u, v]) rfl (by
          rintro j d ρ M hd2 ⟨rfl, u, v, rfl⟩
          have hd2 : (lL ss)[j]? = some d := hd2
          rw [lL_map, List.getElem?_map] at hd2
          cases hs : ss[j]? with
          | none => rw [hs] at hd2; cases hd2
          | some s =>
            rw [hs] at hd2
            have hd2 : D.tup [.int 1, s.l] = d := Option.some.inj hd2
            subst hd2
            have hm := List.mem_of_getElem? hs
            have et : ss.take (j + 1) = ss.take j ++ [s] := by
              rw [List.take_add_one, hs]
              rfl
            have e1 : preL [s] = s.pre := by simp [preL]
            have split : preL ss = preL (ss.take j) ++ (s.pre ++ preL (ss.drop (j + 1))) := by
              conv => lhs; rw [← List.take_append_drop j ss]
              rw [preL_app]
              have : ss.drop j = s :: ss.drop (j + 1) := by
                rw [List.drop_eq_getElem_cons (List.getElem?_eq_some_iff.mp hs).1, (List.getElem?_eq_some_iff.mp hs).2]
              rw [this]
              rfl
            have hcs : cost (preL (ss.take j)) + cost s.pre ≤ cost (preL ss) := by
              rw [split, cost_app, cost_app]
              omega
            have hr2 := run_le (preL (ss.take j)) st
            have hnm := nest_mem hm
            refine ⟨trivial, _, rfl, [some (.ptr 0), some (.lst (lL ss)), some (.int 1), some (.ptr 5), some (.int 1), some s.l], _, .inl ?_, rfl, _, _, rfl⟩
            rw [et, preL_app, run_app, e1]
            rw [seq_nx (ρ1 := [some (.ptr 0), some (.lst (lL ss)), some (.int 1), some (.ptr 5), some (.int 1), some s.l]) (M1 := mS (C 0) (run st (preL (ss.take j)))) rfl]
            rw [if_ok (b := true) (M1 := mS (C 0) (run st (preL (ss.take j)))) rfl, if_pos rfl]
            exact ex_ok (d := .non) (meth_ok (m := 4) (k := 0) (M1 := mS (C 0) (run st (preL (ss.take j)))) (M2 := mS (C 0) (run st (preL (ss.take j)))) (l := [s.l, .int 1, .ptr 5]) rfl rfl (noat "step" (by decide +kernel) (by decide +kernel) (by decide +kernel)) rfl rfl (ihs s _ (by omega) (fun i hi => hd i (by rw [split]; exact List.mem_append_right _ (List.mem_append_left _ hi))) (by omega) (by omega)))) (fun _ _ _ => trivial) ⟨rfl, none, none, rfl⟩
      rw [e1, hM]
      show Fl.ok D.non (mS (C 0) (run st (preL (ss.take (lL ss).length)))) = _
      rw [lL_map, List.length_map, List.take_length]
end
end MM.Law

namespace MM.Law
open PySem PySem.Spec PyProof.Rows L2 TL
/-! ### data that can be told apart -/
def FD (n : Nat) (d : D) : Prop := ∃ p, toPy d = some p ∧ p.canLay0 = true ∧ p.depth ≤ n
theorem FD.mono {n m : Nat} {d : D} (h : FD n d) (hm : n ≤ m) : FD m d := let ⟨p, a, b, c⟩ := h; ⟨p, a, b, Nat.le_trans c hm⟩
theorem FD.int (i : Int) : FD 0 (.int i) := ⟨.int i, rfl, rfl, Nat.le_refl _⟩
theorem FD.str {x : Str} (h : Fine x) : FD 0 (.str x) := ⟨.str x, rfl, by
  rw [PyData.canLay0.eq_4]
  unfold PyData.strOk
  rw [Array.all_eq_true_iff_forall_mem]
  intro c hc
  have := h c (Array.mem_toList_iff.mpr hc)
  exact decide_eq_true (by omega), Nat.le_refl _⟩
theorem FDL {n : Nat} : ∀ l : List D, (∀ d ∈ l, FD n d) → ∃ ps, toPyL l = some ps ∧ PyData.canLayAll0 ps = true ∧ PyData.depthAll ps ≤ n
  | [], _ => ⟨[], rfl, rfl, Nat.zero_le _⟩
  | d :: l, h => by
    obtain ⟨p, a, b, c⟩ := h d List.mem_cons_self
    obtain ⟨ps, a2, b2, c2⟩ := FDL l fun e he => h e (List.mem_cons_of_mem _ he)
    refine ⟨p :: ps, ?_, ?_, ?_⟩
    · rw [toPyL, a, a2]
      rfl
    · rw [PyData.canLayAll0, b, b2]
      rfl
    · rw [PyData.depthAll]
      exact Nat.max_le.mpr ⟨c, c2⟩
theorem FD.tup {n : Nat} {l : List D} (h : ∀ d ∈ l, FD n d) : FD (n + 1) (.tup l) := by
  obtain ⟨ps, a, b, c⟩ := FDL l h
  refine ⟨.tuple ps, by rw [toPy, a]; rfl, by rw [PyData.canLay0]; exact b, ?_⟩
  rw [PyData.depth]
  omega
theorem FD.lst {n : Nat} {l : List D} (h : ∀ d ∈ l, FD n d) : FD (n + 1) (.lst l) := by
  obtain ⟨ps, a, b, c⟩ := FDL l h
  refine ⟨.list ps, by rw [toPy, a]; rfl, by rw [PyData.canLay0]; exact b, ?_⟩
  rw [PyData.depth]
  omega
theorem op_fine (o : Op) : Fine o.s := by cases o <;> exact fine_lit _ (by decide +kernel)
theorem Ex.fd : ∀ e : Ex, e.ok → FD (e.dep + 1) e.d
  | .num i, _ => FD.tup (n := 0) fun d hd => by
    simp only [List.mem_cons, List.not_mem_nil, or_false] at hd
    rcases hd with rfl | rfl
    · exact FD.str (fine_lit _ (by decide +kernel))
    · exact FD.int i
  | .tru x, h => FD.tup (n := 0) fun d hd => by
    simp only [List.mem_cons, List.not_mem_nil, or_false] at hd
    rcases hd with rfl | rfl
    · exact FD.str (fine_lit _ (by decide +kernel))
    · exact FD.str h
  | .nam x, h => FD.tup (n := 0) fun d hd => by
    simp only [List.mem_cons, List.not_mem_nil, or_false] at hd
    rcases hd with rfl | rfl
    · exact FD.str (fine_lit _ (by decide +kernel))
    · exact FD.str h
  | .ng e, h => FD.tup (n := e.dep + 1) fun d hd => by
    simp only [List.mem_cons, List.not_mem_nil, or_false] at hd
    rcases hd with rfl | rfl
    · exact (FD.str (fine_lit _ (by decide +kernel))).mono (Nat.zero_le _)
    · exact Ex.fd e h
  | .bin o a b, h => FD.tup (n := max a.dep b.dep + 1) fun d hd => by
    simp only [List.mem_cons, List.not_mem_nil, or_false] at hd
    rcases hd with rfl | rfl | rfl
    · exact (FD.str (op_fine o)).mono (Nat.zero_le _)
    · exact (Ex.fd a h.1).mono (by omega)
    · exact (Ex.fd b h.2).mono (by omega)
def okI (is : List Item) : Prop := ∀ i ∈ is, i.2.1.ok ∧ i.2.1.dep ≤ 3 ∧ ∀ x, i.2.2 = some x → Fine x
mutual
theorem St.fd : ∀ s : St, okI s.pre → FD (5 + 2 * s.nest) s.d
  | .set a x e, h => by
    obtain ⟨h1, h2, h3⟩ := h (a, e, some x) (by simp [St.pre])
    refine FD.tup (n := 4) fun d hd => ?_
    simp only [List.mem_cons, List.not_mem_nil, or_false] at hd
    rcases hd with rfl | rfl | rfl | rfl
    · exact (FD.str (fine_lit _ (by decide +kernel))).mono (Nat.zero_le _)
    · exact (FD.int a).mono (Nat.zero_le _)
    · exact (FD.str (h3 x rfl)).mono (Nat.zero_le _)
    · exact (Ex.fd e h1).mono (by have : e.dep ≤ 3 := h2; omega)
  | .tell a e, h => by
    obtain ⟨h1, h2, h3⟩ := h (a, e, none) (by simp [St.pre])
    refine FD.tup (n := 4) fun d hd => ?_
    simp only [List.mem_cons, List.not_mem_nil, or_false] at hd
    rcases hd with rfl | rfl | rfl
    · exact (FD.str (fine_lit _ (by decide +kernel))).mono (Nat.zero_le _)
    · exact (FD.int a).mono (Nat.zero_le _)
    · exact (Ex.fd e h1).mono (by have : e.dep ≤ 3 := h2; omega)
  | .ifS a e b o, h => by
    obtain ⟨h1, h2, h3⟩ := h (a, e, none) (by simp [St.pre])
    have hb := dL_fd b fun i hi => h i (by show i ∈ _ :: (preL b ++ preL o); simp [hi])
    have ho := dL_fd o fun i hi => h i (by show i ∈ _ :: (preL b ++ preL o); simp [hi])
    have e1 : 5 + 2 * (St.ifS a e b o).nest = (6 + 2 * max (nestL b) (nestL o)) + 1 := by show 5 + 2 * (max (nestL b) (nestL o) + 1) = _; omega
    rw [e1]
    refine FD.tup fun d hd => ?_
    simp only [List.mem_cons, List.not_mem_nil, or_false] at hd
    rcases hd with rfl | rfl | rfl | rfl | rfl
    · exact (FD.str (fine_lit _ (by decide +kernel))).mono (Nat.zero_le _)
    · exact (FD.int a).mono (Nat.zero_le _)
    · exact (Ex.fd e h1).mono (by have : e.dep ≤ 3 := h2; omega)
    · exact (FD.lst hb).mono (by omega)
    · exact (FD.lst ho).mono (by omega)
  | .whl a e b, h => by
    obtain ⟨h1, h2, h3⟩ := h (a, e, none) (by simp [St.pre])
    have hb := dL_fd b fun i hi => h i (by show i ∈ _ :: preL b; simp [hi])
    have e1 : 5 + 2 * (St.whl a e b).nest = (6 + 2 * nestL b) + 1 := by show 5 + 2 * (nestL b + 1) = _; omega
    rw [e1]
    refine FD.tup fun d hd => ?_
    simp only [List.mem_cons, List.not_mem_nil, or_false] at hd
    rcases hd with rfl | rfl | rfl | rfl
    · exact (FD.str (fine_lit _ (by decide +kernel))).mono (Nat.zero_le _)
    · exact (FD.int a).mono (Nat.zero_le _)
    · exact (Ex.fd e h1).mono (by have : e.dep ≤ 3 := h2; omega)
    · exact (FD.lst hb).mono (by omega)
theorem dL_fd : ∀ l : List St, okI (preL l) → ∀ d ∈ dL l, FD (5 + 2 * nestL l) d
  | [], _, d, hd => nomatch hd
  | s :: l, h, d, hd => by
    have e1 : s.nest ≤ nestL (s :: l) := Nat.le_max_left _ _
    have e2 : nestL l ≤ nestL (s :: l) := Nat.le_max_right _ _
    rcases List.mem_cons.mp (show d ∈ s.d :: dL l from hd) with rfl | hd
    · exact (St.fd s fun i hi => h i (by show i ∈ s.pre ++ preL l; simp [hi])).mono (by omega)
    · exact (dL_fd l (fun i hi => h i (by show i ∈ s.pre ++ preL l; simp [hi])) d hd).mono (by omega)
end
theorem eqv_same {p : PyData} (h : p.canLay0 = true) : PyData.eqv p p = true := SeqAt.eqv_refl p h
/-- what is the same is equal -/
theorem ne_same {a b : D} {M : Mem} {n : Nat} (hs : eqS a b = none) (hv : viewD M a = viewD M b) (h : FD n (viewD M b)) (hn : n ≤ 64) : neD a b M = .ok (.bl false) M := by
  obtain ⟨p, h1, h2, h3⟩ := h
  have hp : SeqAt.shaped p = true := by
    unfold SeqAt.shaped
    rw [h2, Bool.true_and]
    exact decide_eq_true (by omega)
  unfold neD
  rw [hs]
  dsimp only
  unfold eqG
  rw [hv, h1]
  dsimp only
  rw [if_pos ⟨hp, hp⟩, eqv_same h2]
  rfl
/-! ### the faults, sorted -/
theorem key_fd {p : Int × Str} (h : Fine p.2) : FD 1 (key p) := FD.tup (n := 0) fun d hd => by
  simp only [List.mem_cons, List.not_mem_nil, or_false] at hd
  rcases hd with rfl | rfl | rfl
  · exact FD.int _
  · exact FD.str (fine_lit _ (by decide +kernel))
  · exact FD.str h
def kpy (p : Int × Str) : PyData := .tuple [.int p.1, .str "unset", .str p.2]
theorem keys_py : ∀ fs : List (Int × Str), toPyL (fs.map key) = some (fs.map kpy)
  | [] => rfl
  | p :: fs => by
    rw [List.map_cons, toPyL, keys_py fs]
    rfl
theorem srt (fs : List (Int × Str)) (hl : fs.length ≤ 1000000) : ∃ r, sortL (fs.map key) = some r ∧ ∀ d ∈ r, ∃ p ∈ fs, d = key p := by
  have h : PySem.W.AllAlike (fs.map kpy) ∧ PySem.W.Sortable (fs.map kpy) ∧ (∀ p ∈ fs.map kpy, p.depth ≤ 100) ∧ (fs.map key).length ≤ 1000000 := by
    refine ⟨fun d hd d' hd' => ?_, .inl fun d hd => ?_, fun d hd => ?_, by rw [List.length_map]; exact hl⟩
    · obtain ⟨p, _, rfl⟩ := List.mem_map.mp hd
      obtain ⟨q, _, rfl⟩ := List.mem_map.mp hd'
      rfl
    · obtain ⟨p, _, rfl⟩ := List.mem_map.mp hd
      exact ⟨_, _, rfl⟩
    · obtain ⟨p, _, rfl⟩ := List.mem_map.mp hd
      show 1 ≤ 100
      omega
  cases e : sortL (fs.map key) with
  | none =>
    unfold sortL at e
    rw [keys_py] at e
    dsimp only at e
    rw [if_pos h] at e
    cases e
  | some r =>
    refine ⟨r, rfl, fun d hd => ?_⟩
    obtain ⟨p, hp, rfl⟩ := List.mem_map.mp (sortL_mem e d hd)
    exact ⟨p, hp, rfl⟩
end MM.Law

namespace MM.Law
open PySem PySem.Spec PyProof.Rows L2 TL
/-! ### the look is made -/
theorem putD_2 : putD ("defs" : Str) (.ptr 2) [("faults", D.ptr 1)] = ([("faults", D.ptr 1), ("defs", D.ptr 2)] : List (Str × D)) := by
  unfold putD
  rw [if_neg (show ¬ (("faults" : Str) = "defs") from by decide +kernel)]
  rfl
theorem putD_3 : putD ("records" : Str) (.ptr 3) [("faults", D.ptr 1), ("defs", D.ptr 2)] = ([("faults", D.ptr 1), ("defs", D.ptr 2), ("records", D.ptr 3)] : List (Str × D)) := by
  unfold putD
  rw [if_neg (show ¬ (("faults" : Str) = "records") from by decide +kernel)]
  unfold putD
  rw [if_neg (show ¬ (("defs" : Str) = "records") from by decide +kernel)]
  rfl
theorem sfld_ok {Cx : Addr} {f : Str} {fo fv : EF} {ρ : Ro} {M M1 M2 : Mem} {d : D} {k : Nat} {fs : List (Str × D)} (h1 : fv ρ M = .ok d M1) (h2 : fo ρ M1 = .ok (.ptr k) M2) (h3 : M2[k]? = some (.ins Cx fs)) (h4 : fs.length < 1000) : sFldF [Cx] f fo fv ρ M = .ok (.nx ρ) (M2.set k (.ins Cx (putD f d fs))) := by
  unfold sFldF
  rw [h1, Fl.bind_ok, h2, Fl.bind_ok]
  dsimp only
  rw [h3]
  dsimp only
  rw [if_pos ⟨by simp, h4⟩]
def St.w : St → Str
  | .set _ _ _ => "set" | .tell _ _ => "tell" | .ifS _ _ _ _ => "if" | .whl _ _ _ => "while"
theorem St.l_w : ∀ s : St, ∃ r, s.l = .tup (.str s.w :: r)
  | .set _ _ _ => ⟨_, rfl⟩
  | .tell _ _ => ⟨_, rfl⟩
  | .ifS _ _ _ _ => ⟨_, rfl⟩
  | .whl _ _ _ => ⟨_, rfl⟩
theorem St.w_ne (s : St) : ¬ s.w = "def" ∧ ¬ s.w = "kind" := by
  cases s
  · exact show ¬ (("set" : Str) = "def") ∧ ¬ (("set" : Str) = "kind") from by decide +kernel
  · exact show ¬ (("tell" : Str) = "def") ∧ ¬ (("tell" : Str) = "kind") from by decide +kernel
  · exact show ¬ (("if" : Str) = "def") ∧ ¬ (("if" : Str) = "kind") from by decide +kernel
  · exact show ¬ (("while" : Str) = "def") ∧ ¬ (("while" : Str) = "kind") from by decide +kernel
def mI (C : Addr) : Mem := [.ins C [("faults", .ptr 1), ("defs", .ptr 2), ("records", .ptr 3)], .dct [], .dct [], .dct [], .dct []]
theorem g_init (C : Nat → Addr) (ss : List St) : G_NameLook_init C [.ptr 0, .lst (lL ss), .int 1] [.ins (C 0) []] = .ok .non (mI (C 0)) := by
  unfold G_NameLook_init B_NameLook_init
  let ρ : Ro := [some (.ptr 0), some (.lst (lL ss)), some (.int 1), none, none, none]
  show finM (sSeq _ _ ρ _) = _
  rw [seq_nx (ρ1 := ρ) (M1 := [.ins (C 0) [("faults", .ptr 1)], .dct []]) (sfld_ok (d := .ptr 1) (M1 := [.ins (C 0) [], .dct []]) (M2 := [.ins (C 0) [], .dct []]) (k := 0) (fs := []) rfl rfl rfl (by decide))]
  rw [seq_nx (ρ1 := ρ) (M1 := [.ins (C 0) [("faults", .ptr 1), ("defs", .ptr 2)], .dct [], .dct []]) ((sfld_ok (d := .ptr 2) (M1 := [.ins (C 0) [("faults", .ptr 1)], .dct [], .dct []]) (M2 := [.ins (C 0) [("faults", .ptr 1)], .dct [], .dct []]) (k := 0) (fs := [("faults", .ptr 1)]) rfl rfl rfl (by decide)).trans (by rw [putD_2]; rfl))]
  rw [seq_nx (ρ1 := ρ) (M1 := [.ins (C 0) [("faults", .ptr 1), ("defs", .ptr 2), ("records", .ptr 3)], .dct [], .dct [], .dct []]) ((sfld_ok (d := .ptr 3) (M1 := [.ins (C 0) [("faults", .ptr 1), ("defs", .ptr 2)], .dct [], .dct [], .dct []]) (M2 := [.ins (C 0) [("faults", .ptr 1), ("defs", .ptr 2)], .dct [], .dct [], .dct []]) (k := 0) (fs := [("faults", .ptr 1), ("defs", .ptr 2)]) rfl rfl rfl (by decide)).trans (by rw [putD_3]; rfl))]
  rw [seq_nx (ρ1 := [some (.ptr 0), some (.lst (lL ss)), some (.int 1), some (.ptr 4), none, none]) (M1 := mI (C 0)) rfl]
  generalize hB : sIf (bOr _ _) _ _ = body
  obtain ⟨ρ', M', e1, hM, u, v, hρ⟩ := sFor_nx (ρ := [some (.ptr 0), some (.lst (lL ss)), some (.int 1), some (.ptr 4), none, none]) (M := mI (C 0)) (M0 := mI (C 0)) (it := ⟨lL ss, none⟩) (fi := iA (eVar 1)) (g := gTp 2 (gC (gNm 4) (gC (gNm 5) gN))) (body := body)
    (fun j ρ M => M = mI (C 0) ∧ ∃ u v, ρ = [some (.ptr 0), some (.lst (lL ss)), some (.int 1), some (.ptr 4), u, v]) rfl (by
      rintro j d ρ M hd2 ⟨rfl, u, v, rfl⟩
      have hd2 : (lL ss)[j]? = some d := hd2
      rw [lL_map, List.getElem?_map] at hd2
      cases hs : ss[j]? with
      | none => rw [hs] at hd2; cases hd2
      | some s =>
        rw [hs] at hd2
        have hd2 : D.tup [.int 1, s.l] = d := Option.some.inj hd2
        subst hd2 hB
        obtain ⟨r, hr⟩ := s.l_w
        have e0 : eBin ixA (eVar 5) (eC (.int 0)) [some (.ptr 0), some (.lst (lL ss)), some (.int 1), some (.ptr 4), some (.int 1), some s.l] (mI (C 0)) = .ok (.str s.w) (mI (C 0)) := (bin_ok (a := s.l) (b := .int 0) rfl rfl).trans (by rw [hr]; exact ix0 _ _ _)
        refine ⟨trivial, _, rfl, [some (.ptr 0), some (.lst (lL ss)), some (.int 1), some (.ptr 4), some (.int 1), some s.l], mI (C 0), .inl ?_, rfl, _, _, rfl⟩
        exact (if_ok (bor_ok (a := false) (b := false) (beqS_ok (i := s.w) (j := "def") e0 rfl (by simpa using s.w_ne.1)) (beqS_ok (i := s.w) (j := "kind") e0 rfl (by simpa using s.w_ne.2)))).trans rfl) (fun _ _ _ => trivial) ⟨rfl, none, none, rfl⟩
  rw [e1, hM]
  rfl
/-- a fault as shared_names tells it -/
def withM : D → D
  | .tup l => .tup (.int 1 :: l)
  | d => d
theorem g_shared (C : Nat → Addr) (ss : List St) (hn : nestL ss ≤ 5) (hd : dpI (preL ss)) (hc : cost (preL ss) < 1000000) :
    ∃ r, sortL ((run ([], []) (preL ss)).1.map key) = some r ∧ (∀ d ∈ r, ∃ p ∈ (run ([], []) (preL ss)).1, d = key p) ∧ G_shared_names C [.lst (lL ss), .int 1] = .ok (.lst (r.map withM)) := by
  have hrl := run_le (preL ss) ([], [])
  have hrl : (run ([], []) (preL ss)).1.length ≤ cost (preL ss) ∧ (run ([], []) (preL ss)).2.length ≤ cost (preL ss) := by simpa using hrl
  obtain ⟨r, hr, hm⟩ := srt (run ([], []) (preL ss)).1 (by omega)
  refine ⟨r, hr, hm, ?_⟩
  generalize hst : run ([], []) (preL ss) = st at *
  unfold G_shared_names B_shared_names
  rw [show startR N_shared_names [.lst (lL ss), .int 1] = [some (.lst (lL ss)), some (.int 1), none, none] from rfl]
  rw [seq_nx (ρ1 := [some (.lst (lL ss)), some (.int 1), some (.ptr 0), none]) (M1 := mI (C 0)) (set_ok (by
    unfold eMake
    rw [acons_ok (a := .lst (lL ss)) (l := [.int 1]) (M1 := []) (M2 := []) rfl rfl, Fl.bind_ok, if_pos (show ([D.lst (lL ss), D.int 1] : List D).length + 1 = 3 from rfl)]
    show (G_NameLook_init C [.ptr 0, .lst (lL ss), .int 1] [.ins (C 0) []]).bind _ = _
    rw [g_init, Fl.bind_ok, if_pos rfl]
    rfl))]
  rw [seq_nx (ρ1 := [some (.lst (lL ss)), some (.int 1), some (.ptr 0), none]) (M1 := mS (C 0) st) (ex_ok (d := .non) (meth_ok (m := 4) (k := 0) (M1 := mI (C 0)) (M2 := mS (C 0) ([], [])) (l := [.lst (lL ss), .int 1, .ptr 5]) rfl rfl (noat "walk" (by decide +kernel) (by decide +kernel) (by decide +kernel)) rfl rfl (by
    rw [(look_ok C 12).2 ss ([], []) (by omega) hd (by simpa using hc) (by simpa using hc), hst])))]
  refine (congrArg fin (ret_ok (d := .lst (r.map withM)) (M1 := mS (C 0) st) ?_)).trans (fin_rt (bndL_iff.mpr fun d hd => ?_))
  · have hf : ∀ ρ : Ro, ρ[2]? = some (some (.ptr 0)) → eFld [C 0] "faults" (eVar 2) ρ (mS (C 0) st) = .ok (.ptr 1) (mS (C 0) st) := fun ρ h => by
      unfold eFld
      rw [var_ok h]
      simp [mS, mF, ff]
    refine eLcF_map (it := ⟨r, none⟩) (M := mS (C 0) st) withM ?_ trivial ?_ fun d hd => ?_
    · unfold iA
      rw [ca_ok (l := [.ptr 1]) (M1 := mS (C 0) st) (aone_ok (hf _ rfl))]
      unfold sortA
      dsimp only
      rw [show dctD (mS (C 0) st) (.ptr 1) = _ from dctD_1 _ _ _]
      dsimp only
      rw [List.map_map, show ((fun x : D × D => x.1) ∘ fun p : Int × Str => (key p, D.int 1)) = key from rfl, hr]
      rfl
    · have : r.length = st.1.length := by
        have := hr
        unfold sortL at this
        rw [keys_py] at this
        dsimp only at this
        split at this
        · have this := Option.some.inj this
          rw [← this, List.length_map, List.length_mergeSort, List.length_zip, List.length_map, List.length_map]
          simp
        · cases this
      rw [this]
      omega
    · obtain ⟨p, hp, rfl⟩ := hm d hd
      refine ⟨[some (.lst (lL ss)), some (.int 1), some (.ptr 0), some (key p)], rfl, ?_⟩
      refine (ca_ok (l := [.int 1, .int p.1, .str "unset", .str p.2]) (acons_ok (a := .int 1) (M1 := mS (C 0) st) ((bin_ok (hf _ rfl) rfl (b := key p)).trans ?_) (acons_ok (M1 := mS (C 0) st) ((bin_ok (a := key p) (b := .int 0) rfl rfl).trans (ix0 _ _ _)) (acons_ok (M1 := mS (C 0) st) ((bin_ok (a := key p) (b := .int 1) rfl rfl).trans (ix1 _ _ _ _)) (aone_ok ((bin_ok (a := key p) (b := .int 2) rfl rfl).trans (ix2 _ _ _ _ _))))))).trans rfl
      unfold ixA
      rw [show dctD (mS (C 0) st) (.ptr 1) = _ from dctD_1 _ _ _]
      dsimp only
      rw [if_pos (keyB_key p), getK_ones key (fun _ _ => key_inj), if_pos hp]
  · obtain ⟨d', hd', rfl⟩ := List.mem_map.mp hd
    obtain ⟨p, _, rfl⟩ := hm d' hd'
    exact ⟨trivial, trivial, trivial, trivial, trivial⟩
/-- plain_names -/
theorem g_plain (C : Nat → Addr) (ss : List St) (hn : nestL ss ≤ 5) (hd : dpI (preL ss)) (hc : cost (preL ss) < 1000000) (hp : (preL ss).length < 1000000) (M : Mem) :
    ∃ r, sortL ((run ([], []) (preL ss)).1.map key) = some r ∧ (∀ d ∈ r, ∃ p ∈ (run ([], []) (preL ss)).1, d = key p) ∧ G_plain_names C [.lst (dL ss)] M = .ok (.ptr M.length) (M ++ [.lst r]) := by
  obtain ⟨r, hr, hm, hs⟩ := g_shared C ss hn hd hc
  refine ⟨r, hr, hm, ?_⟩
  unfold G_plain_names B_plain_names
  rw [show startR N_plain_names [.lst (dL ss)] = [some (.lst (dL ss)), none] from rfl]
  have hrl : r.length ≤ 1000000 := by
    have h2 := run_le (preL ss) ([], [])
    have h2 : (run ([], []) (preL ss)).1.length ≤ cost (preL ss) := by simpa using h2.1
    have := hr
    unfold sortL at this
    rw [keys_py] at this
    dsimp only at this
    split at this
    · have this := Option.some.inj this
      rw [← this, List.length_map, List.length_mergeSort, List.length_zip, List.length_map, List.length_map]
      omega
    · cases this
  refine (congrArg finM (ret_ok (d := .ptr M.length) (M1 := M ++ [.lst r]) ?_)).trans rfl
  have e := eLcP_map (it := ⟨r.map withM, none⟩) (M := M) (M0 := M) (ρ := [some (.lst (dL ss)), none]) (vs := [1]) (g := gNm 1) (fi := iA (eCall 2 (G_shared_names C) (aCons (eCall 1 (G_lifted_tree 7) (aCons (eVar 0) aNil)) (aCons (eC (.int 1)) aNil)))) (fe := eSlA (eVar 1) (oIx (eC (.int 1))) oNo)
    (fun d => match d with | .tup l => .tup l.tail | d => d) (by
      unfold iA
      rw [call_ok (m := 2) (l := [.lst (lL ss), .int 1]) (acons_ok (call_ok (m := 1) (l := [.lst (dL ss)]) (M1 := M) rfl rfl ⟨dL_bnd 0 ss, trivial⟩ (lift_ok 7 ss (by omega) hp) (lL_bnd 0 ss)) rfl) rfl ⟨lL_bnd 0 ss, trivial, trivial⟩ hs (bndL_iff.mpr fun d hd => by
        obtain ⟨d', hd', rfl⟩ := List.mem_map.mp hd
        obtain ⟨p, _, rfl⟩ := hm d' hd'
        exact ⟨trivial, trivial, trivial, trivial, trivial⟩)]
      rfl) trivial (by rw [List.length_map]; exact hrl) (fun d hd => by
      obtain ⟨d', hd', rfl⟩ := List.mem_map.mp hd
      obtain ⟨p, _, rfl⟩ := hm d' hd'
      refine ⟨_, rfl, ?_⟩
      show Fl.ok (D.tup (cutL (.int 1 :: [.int p.1, .str "unset", .str p.2]) (some 1) none)) M = _
      rw [cut1]
      rfl)
  rw [e, List.map_map]
  have : r.map ((fun d => match d with | .tup l => .tup l.tail | d => d) ∘ withM) = r := by
    refine (List.map_congr_left fun d hd => ?_).trans (List.map_id r)
    obtain ⟨p, _, rfl⟩ := hm d hd
    rfl
  rw [this]
end MM.Law

namespace MM.Law
open PySem PySem.Spec PyProof.Rows L2 TL
/-! ### one row is built -/
theorem atI_last {α : Type} (l : List α) (x : α) : atI (l ++ [x]) (-1) = some x := by
  unfold atI ixN
  have : (l ++ [x]).length = l.length + 1 := by simp
  rw [this]
  simp
  rw [if_pos (by omega)]
  show (l ++ [x])[(-1 + ((l.length : Int) + 1)).toNat]? = some x
  rw [show (-1 + ((l.length : Int) + 1)).toNat = l.length from by omega]
  simp
theorem ix_last {k : Nat} {l : List D} {x : D} {M : Mem} (e : M[k]? = some (.lst (l ++ [x]))) : ixA (.ptr k) (.int (-1)) M = .ok x M := by
  rw [ixA_ptr e]
  unfold ixD
  dsimp only
  unfold itemsD
  dsimp only
  rw [e]
  dsimp only
  rw [atI_last]
theorem pop_last {k : Nat} {l : List D} {x : D} {M : Mem} (e : M[k]? = some (.lst (l ++ [x]))) : popD (.ptr k) [] M = .ok x (M.set k (.lst l)) := by
  unfold popD
  dsimp only
  rw [e]
  dsimp only
  have : (l ++ [x])[(l ++ [x]).length - 1]? = some x := by simp
  rw [this]
  dsimp only
  rw [List.dropLast_concat]
section
variable (p : Nat) (o : D) (st0 cell : List D) (M : Mem)
/-- where the row comes: the stack at 1, its last entry's block at p -/
structure At : Prop where
  st : M[1]? = some (.lst (st0 ++ [.tup [.ptr p, o]]))
  ce : M[p]? = some (.lst cell)
  ne : p ≠ 1
  l1 : (st0 ++ [D.tup [.ptr p, o]]).length < 1000000
  l2 : cell.length < 1000000
variable {p o st0 cell M} (h : At p o st0 cell M)
include h
theorem At.blk {ρ : Ro} (hs : ρ[0]? = some (some (.ptr 1))) : eBin ixA (eBin ixA (eVar 0) (eUn negD (eC (.int 1)))) (eC (.int 0)) ρ M = .ok (.ptr p) M :=
  (bin_ok ((bin_ok (var_ok hs) (b := .int (-1)) (M2 := M) rfl).trans (ix_last h.st)) rfl (b := .int 0)).trans (ix0 _ _ _)
theorem At.oth {ρ : Ro} (hs : ρ[0]? = some (some (.ptr 1))) : eBin ixA (eBin ixA (eVar 0) (eUn negD (eC (.int 1)))) (eC (.int 1)) ρ M = .ok o M :=
  (bin_ok ((bin_ok (var_ok hs) (b := .int (-1)) (M2 := M) rfl).trans (ix_last h.st)) rfl (b := .int 1)).trans (ix1 _ _ _ _)
theorem At.app {ρ : Ro} {fa : AF} {d : D} (hs : ρ[0]? = some (some (.ptr 1))) (hf : fa ρ M = .ok [d] M) : sEx (eMt "list" appD (eBin ixA (eBin ixA (eVar 0) (eUn negD (eC (.int 1)))) (eC (.int 0))) fa) ρ M = .ok (.nx ρ) (M.set p (.lst (cell ++ [d]))) :=
  ex_ok (d := .non) ((eMt_ok (a := .ptr p) (l := [d]) (M1 := M) (M2 := M) (h.blk hs) (by unfold tyM; dsimp only; rw [h.ce]) hf).trans (app_ptr h.ce h.l2))
theorem At.len {ρ : Ro} (hs : ρ[0]? = some (some (.ptr 1))) : eCa lenD (aCons (eVar 0) aNil) ρ M = .ok (.int (st0.length + 1)) M := by
  rw [ca_ok (l := [.ptr 1]) (M1 := M) (aone_ok (var_ok hs))]
  unfold lenD
  dsimp only
  unfold itemsD
  dsimp only
  rw [h.st]
  simp
omit h
def stIf (a : Int) (e : Ex) (k k' : Nat) : D := .tup [.str "if", .int a, e.d, .ptr k, .ptr k']
def stWh (a : Int) (e : Ex) (k : Nat) : D := .tup [.str "while", .int a, e.d, .ptr k]
include h
theorem g_opened (f a : Int) (e : Ex) (hp : p < M.length) (h1 : 1 < M.length) : G_law_opened [.ptr 1, .int f, .int a, e.d] M = .ok .non (if f = 4 then
      ((M ++ [MO.lst [], MO.lst []]).set p (.lst (cell ++ [stIf a e M.length (M.length + 1)]))).set 1 (.lst (st0 ++ [.tup [.ptr p, o]] ++ [.tup [.ptr M.length, .ptr (M.length + 1)]]))
    else ((M ++ [MO.lst []]).set p (.lst (cell ++ [stWh a e M.length]))).set 1 (.lst (st0 ++ [.tup [.ptr p, o]] ++ [.tup [.ptr M.length, .non]]))) := by
  unfold G_law_opened B_law_opened
  rw [show startR N_law_opened [.ptr 1, .int f, .int a, e.d] = [some (.ptr 1), some (.int f), some (.int a), some e.d, none, none] from rfl]
  have ext : ∀ L : Mem, At p o st0 cell (M ++ L) := fun L => ⟨by rw [List.getElem?_append_left h1]; exact h.st, by rw [List.getElem?_append_left hp]; exact h.ce, h.ne, h.l1, h.l2⟩
  rw [seq_nx (ρ1 := [some (.ptr 1), some (.int f), some (.int a), some e.d, some (.ptr M.length), none]) (M1 := M ++ [MO.lst []]) rfl]
  by_cases hf : f = 4
  · rw [if_ok (b := true) (M1 := M ++ [MO.lst []]) (beqI_ok (i := f) (j := 4) rfl rfl (by simp [hf])), if_pos rfl, if_pos hf]
    have hl : (M ++ [MO.lst []]).length = M.length + 1 := by simp
    let ρ : Ro := [some (.ptr 1), some (.int f), some (.int a), some e.d, some (.ptr M.length), some (.ptr (M.length + 1))]
    rw [seq_nx (ρ1 := ρ) (M1 := M ++ [MO.lst [], MO.lst []]) (by
      refine (set_ok (d := .ptr (M ++ [MO.lst []]).length) (M1 := (M ++ [MO.lst []]) ++ [.lst []]) rfl).trans ?_
      rw [hl, List.append_assoc]
      rfl)]
    rw [seq_nx ((ext [MO.lst [], MO.lst []]).app (ρ := ρ) (d := stIf a e M.length (M.length + 1)) rfl rfl)]
    refine (congrArg finM (ex_ok (d := .non) (M1 := ((M ++ [MO.lst [], MO.lst []]).set p (.lst (cell ++ [stIf a e M.length (M.length + 1)]))).set 1 (.lst (st0 ++ [.tup [.ptr p, o]] ++ [.tup [.ptr M.length, .ptr (M.length + 1)]]))) ?_)).trans rfl
    have e1 : ((M ++ [MO.lst [], MO.lst []]).set p (.lst (cell ++ [stIf a e M.length (M.length + 1)])))[1]? = some (.lst (st0 ++ [.tup [.ptr p, o]])) := by
      rw [List.getElem?_set_ne h.ne]
      exact (ext _).st
    refine (eMt_ok (a := .ptr 1) (l := [.tup [.ptr M.length, .ptr (M.length + 1)]]) (M1 := _) (M2 := _) rfl ?_ rfl).trans (app_ptr e1 h.l1)
    unfold tyM
    dsimp only
    rw [e1]
  · rw [if_ok (b := false) (M1 := M ++ [MO.lst []]) (beqI_ok (i := f) (j := 4) rfl rfl (by simp [hf])), if_neg Bool.false_ne_true, if_neg hf]
    let ρ : Ro := [some (.ptr 1), some (.int f), some (.int a), some e.d, some (.ptr M.length), none]
    rw [seq_nx ((ext [MO.lst []]).app (ρ := ρ) (d := stWh a e M.length) rfl rfl)]
    refine (congrArg finM (ex_ok (d := .non) (M1 := ((M ++ [MO.lst []]).set p (.lst (cell ++ [stWh a e M.length]))).set 1 (.lst (st0 ++ [.tup [.ptr p, o]] ++ [.tup [.ptr M.length, .non]]))) ?_)).trans rfl
    have e1 : ((M ++ [MO.lst []]).set p (.lst (cell ++ [stWh a e M.length])))[1]? = some (.lst (st0 ++ [.tup [.ptr p, o]])) := by
      rw [List.getElem?_set_ne h.ne]
      exact (ext _).st
    refine (eMt_ok (a := .ptr 1) (l := [.tup [.ptr M.length, .non]]) (M1 := _) (M2 := _) rfl ?_ rfl).trans (app_ptr e1 h.l1)
    unfold tyM
    dsimp only
    rw [e1]
/-- what a row does -/
inductive RowOut (xs : List Str) (a : Int) : D → Mem → Prop
  | set (e : Ex) (x : Str) : e.ok → e.dep ≤ 3 → x ∈ xs → RowOut xs a (.tup [e.d, .str x]) (M.set p (.lst (cell ++ [St.d (.set a x e)])))
  | tell (e : Ex) : e.ok → e.dep ≤ 3 → RowOut xs a (.tup [e.d, .non]) (M.set p (.lst (cell ++ [St.d (.tell a e)])))
  | opI (e : Ex) : e.ok → e.dep ≤ 3 → st0.length + 1 < 5 → RowOut xs a (.tup [e.d, .non]) (((M ++ [MO.lst [], MO.lst []]).set p (.lst (cell ++ [stIf a e M.length (M.length + 1)]))).set 1 (.lst (st0 ++ [.tup [.ptr p, o]] ++ [.tup [.ptr M.length, .ptr (M.length + 1)]])))
  | opW (e : Ex) : e.ok → e.dep ≤ 3 → st0.length + 1 < 5 → RowOut xs a (.tup [e.d, .non]) (((M ++ [MO.lst []]).set p (.lst (cell ++ [stWh a e M.length]))).set 1 (.lst (st0 ++ [.tup [.ptr p, o]] ++ [.tup [.ptr M.length, .non]])))
  | els : o ≠ .non → RowOut xs a (.tup [.non, .non]) (M.set 1 (.lst (st0 ++ [.tup [o, .non]])))
  | stop : 0 < st0.length → RowOut xs a (.tup [.non, .non]) (M.set 1 (.lst st0))
  | no : RowOut xs a (.tup [.non, .non]) M

omit h
theorem itn {xs : List Str} (hx : xs.length = 4) (n : Int) : ∃ x ∈ xs, ∀ M : Mem, ixA (.lst (xs.map .str)) (.int (n % (xs.length : Int))) M = .ok (.str x) M := by
  have hl : 0 < (xs.length : Int) := by omega
  obtain ⟨d, hd, hm⟩ := atI_in (l := xs.map D.str) (k := n % (xs.length : Int)) (Int.emod_nonneg _ (by omega)) (by rw [List.length_map]; exact Int.emod_lt_of_pos _ hl)
  obtain ⟨x, hx, rfl⟩ := List.mem_map.mp hm
  refine ⟨x, hx, fun M => ?_⟩
  rw [ixA_lst]
  simp [ixD, itemsD, hd]
include h
theorem g_row (xs : List Str) (hx : xs.length = 4) (hf : ∀ x ∈ xs, Fine x) (n a : Int) (hn : 0 ≤ n) (hp : p < M.length) (h1 : 1 < M.length) (ho : o = .non ∨ ∃ q, o = .ptr q) :
    ∃ out M', G_law_row [.ptr 1, .int n, .int a, .lst (xs.map .str)] M = .ok out M' ∧ RowOut (p := p) (o := o) (st0 := st0) (cell := cell) (M := M) xs a out M' := by
  have hxs : xs ≠ [] := fun z => by rw [z] at hx; cases hx
  have hd0 : 0 ≤ n / 9 % 4 := Int.emod_nonneg _ (by decide)
  have hd1 : n / 9 % 4 < 4 := Int.emod_lt_of_pos _ (by decide)
  obtain ⟨e, he, hed, heo⟩ := g_expr xs hxs (by omega) hf (n / 9 % 4).toNat 5 (mixN n 5) (mix_nn _ _) (by omega)
  have hdd : (((n / 9 % 4).toNat : Nat) : Int) = n / 9 % 4 := by omega
  rw [hdd] at he
  have hed : e.dep ≤ 3 := by omega
  unfold G_law_row B_law_row
  rw [show startR N_law_row [.ptr 1, .int n, .int a, .lst (xs.map .str)] = [some (.ptr 1), some (.int n), some (.int a), some (.lst (xs.map .str)), none, none, none, none, none] from rfl]
  rw [seq_nx (ρ1 := [some (.ptr 1), some (.int n), some (.int a), some (.lst (xs.map .str)), some (.int (n % 9)), none, none, none, none]) (M1 := M) (set_ok ((bin_ok (a := .int n) (b := .int 9) rfl rfl).trans rfl))]
  let ρ : Ro := [some (.ptr 1), some (.int n), some (.int a), some (.lst (xs.map .str)), some (.int (n % 9)), some e.d, none, none, none]
  rw [seq_nx (ρ1 := ρ) (M1 := M) (set_ok (call_ok (m := 3) (l := [.int (mixN n 5), .lst (xs.map .str), .int (n / 9 % 4)]) (acons_ok (M1 := M) (call_ok (m := 2) (l := [.int n, .int 5]) (M1 := M) rfl rfl (by simp) (g_mixed n 5) trivial) (acons_ok rfl (aone_ok ((bin_ok (a := .int (n / 9)) (b := .int 4) (M1 := M) ((bin_ok (a := .int n) (b := .int 9) rfl rfl).trans rfl) rfl).trans rfl)))) rfl (by simp) he (Ex.bnd _ _)))]
  have lt : ∀ k : Int, bOf (eBin ltD (eVar 4) (eC (.int k))) ρ M = .ok (decide (n % 9 < k)) M := fun k => blt_ok (i := n % 9) (j := k) rfl rfl rfl
  have eq : ∀ k : Int, bOf (eBin eqD (eVar 4) (eC (.int k))) ρ M = .ok (decide (n % 9 = k)) M := fun k => beqI_ok (i := n % 9) (j := k) rfl rfl rfl
  have rtN : ∀ (ρ : Ro) (M : Mem), ρ[5]? = some (some e.d) → sRet (eCa tupD (aCons (eVar 5) (aCons (eC .non) aNil))) ρ M = .ok (.rt (.tup [e.d, .non])) M := fun ρ M hρ => ret_ok ((ca_ok (l := [e.d, .non]) (acons_ok (var_ok hρ) rfl)).trans rfl)
  by_cases c2 : n % 9 < 2
  · obtain ⟨x, hxm, hix⟩ := itn hx (n / 36)
    refine ⟨_, _, ?_, .set e x heo hed hxm⟩
    refine (congrArg finM (seq_rt (d := .tup [e.d, .str x]) (M1 := M.set p (.lst (cell ++ [St.d (.set a x e)]))) ?_)).trans rfl
    rw [if_ok (lt 2), if_pos (by simpa using c2)]
    let ρ2 : Ro := [some (.ptr 1), some (.int n), some (.int a), some (.lst (xs.map .str)), some (.int (n % 9)), some e.d, some (.str x), none, none]
    rw [seq_nx (ρ1 := ρ2) (M1 := M) (set_ok ((bin_ok (a := .lst (xs.map .str)) (b := .int (n / 36 % (xs.length : Int))) (M1 := M) (M2 := M) rfl ((bin_ok (a := .int (n / 36)) (b := .int xs.length) (M1 := M) (M2 := M) ((bin_ok (a := .int n) (b := .int 36) rfl rfl).trans rfl) (by simp [eCa, lenD, aCons, aNil, eVar, ρ, itemsD])).trans (by simp [modD, hx]))).trans (hix M)))]
    rw [seq_nx (h.app (ρ := ρ2) (d := St.d (.set a x e)) rfl rfl)]
    rfl
  rw [seq_nx (ρ1 := ρ) (M1 := M) (by rw [if_ok (lt 2), if_neg (by simpa using c2)]; rfl)]
  by_cases c4 : n % 9 < 4
  · refine ⟨_, _, ?_, .tell e heo hed⟩
    refine (congrArg finM (seq_rt (d := .tup [e.d, .non]) (M1 := M.set p (.lst (cell ++ [St.d (.tell a e)]))) ?_)).trans rfl
    rw [if_ok (lt 4), if_pos (by simpa using c4)]
    rw [seq_nx (h.app (ρ := ρ) (d := St.d (.tell a e)) rfl rfl)]
    exact rtN _ _ rfl
  rw [seq_nx (ρ1 := ρ) (M1 := M) (by rw [if_ok (lt 4), if_neg (by simpa using c4)]; rfl)]
  have ln : bOf (eBin ltD (eCa lenD (aCons (eVar 0) aNil)) (eC (.int 5))) ρ M = .ok (decide ((st0.length : Int) + 1 < 5)) M := blt_ok (i := (st0.length : Int) + 1) (j := 5) (h.len rfl) rfl rfl
  have hc6 : bAnd (bOf (eBin ltD (eVar 4) (eC (.int 6)))) (bOf (eBin ltD (eCa lenD (aCons (eVar 0) aNil)) (eC (.int 5)))) ρ M = .ok (decide (n % 9 < 6) && decide ((st0.length : Int) + 1 < 5)) M := band_ok (lt 6) ln
  by_cases c6 : n % 9 < 6 ∧ (st0.length : Int) + 1 < 5
  · have ho := g_opened h (n % 9) a e hp h1
    have cc : (decide (n % 9 < 6) && decide ((st0.length : Int) + 1 < 5)) = true := by simp [c6.1, c6.2]
    by_cases f4 : n % 9 = 4
    · rw [if_pos f4] at ho
      refine ⟨_, _, ?_, .opI e heo hed (by omega)⟩
      refine (congrArg finM (seq_rt (d := .tup [e.d, .non]) (M1 := _) ?_)).trans rfl
      rw [if_ok hc6, if_pos cc, seq_nx (ex_ok (f := eCallM 4 G_law_opened (aCons (eVar 0) (aCons (eVar 4) (aCons (eVar 2) (aCons (eVar 5) aNil))))) (ρ := ρ) (M := M) ho)]
      exact rtN _ _ rfl
    · rw [if_neg f4] at ho
      refine ⟨_, _, ?_, .opW e heo hed (by omega)⟩
      refine (congrArg finM (seq_rt (d := .tup [e.d, .non]) (M1 := _) ?_)).trans rfl
      rw [if_ok hc6, if_pos cc, seq_nx (ex_ok (f := eCallM 4 G_law_opened (aCons (eVar 0) (aCons (eVar 4) (aCons (eVar 2) (aCons (eVar 5) aNil))))) (ρ := ρ) (M := M) ho)]
      exact rtN _ _ rfl
  rw [seq_nx (ρ1 := ρ) (M1 := M) (by
    rw [if_ok hc6, if_neg (by
      rw [Bool.and_eq_true, decide_eq_true_eq, decide_eq_true_eq]
      exact c6)]
    rfl)]
  have rt2 : ∀ (ρ : Ro) (M : Mem), sRet (eCa tupD (aCons (eC .non) (aCons (eC .non) aNil))) ρ M = .ok (.rt (.tup [.non, .non])) M := fun ρ M => rfl
  have he : bOf (eBin isNotD (eBin ixA (eBin ixA (eVar 0) (eUn negD (eC (.int 1)))) (eC (.int 1))) (eC .non)) ρ M = .ok (!decide (o = .non)) M := by
    refine bof_ok ((bin_ok (h.oth rfl) rfl (b := .non)).trans ?_)
    rcases ho with rfl | ⟨q, rfl⟩ <;> simp [isNotD]
  have hc7 : bAnd (bOf (eBin eqD (eVar 4) (eC (.int 6)))) (bOf (eBin isNotD (eBin ixA (eBin ixA (eVar 0) (eUn negD (eC (.int 1)))) (eC (.int 1))) (eC .non))) ρ M = .ok (decide (n % 9 = 6) && !decide (o = .non)) M := band_ok (eq 6) he
  have tyS : tyM "list" (.ptr 1) M := by
    unfold tyM
    dsimp only
    rw [h.st]
  by_cases c7 : n % 9 = 6 ∧ ¬ o = .non
  · refine ⟨_, _, ?_, .els c7.2⟩
    let ρ2 : Ro := [some (.ptr 1), some (.int n), some (.int a), some (.lst (xs.map .str)), some (.int (n % 9)), some e.d, none, some (.ptr p), some o]
    rw [seq_nx (ρ1 := ρ2) (M1 := M.set 1 (.lst (st0 ++ [.tup [o, .non]]))) (by
      rw [if_ok hc7, if_pos (by simp [c7.1, c7.2])]
      rw [seq_nx (ρ1 := ρ2) (M1 := M.set 1 (.lst st0)) (by
        unfold sTgt
        rw [eMt_ok (a := .ptr 1) (l := []) (M1 := M) (M2 := M) rfl tyS rfl, pop_last h.st]
        rfl)]
      have e1 : (M.set 1 (.lst st0))[1]? = some (.lst st0) := List.getElem?_set_self h1
      have hl1 := h.l1
      rw [List.length_append] at hl1
      refine ex_ok (d := .non) ((eMt_ok (a := .ptr 1) (l := [.tup [o, .non]]) (M1 := M.set 1 (.lst st0)) (M2 := M.set 1 (.lst st0)) rfl (by unfold tyM; dsimp only; rw [e1]) rfl).trans ((app_ptr e1 (by omega)).trans ?_))
      rw [List.set_set])]
    rfl
  have hgt : bOf (eBin gtD (eCa lenD (aCons (eVar 0) aNil)) (eC (.int 1))) ρ M = .ok (decide ((1 : Int) < st0.length + 1)) M := bgt_ok (i := (st0.length : Int) + 1) (j := 1) (h.len rfl) rfl rfl
  have hc8 : bAnd (bOf (eBin eqD (eVar 4) (eC (.int 7)))) (bOf (eBin gtD (eCa lenD (aCons (eVar 0) aNil)) (eC (.int 1)))) ρ M = .ok (decide (n % 9 = 7) && decide ((1 : Int) < st0.length + 1)) M := band_ok (eq 7) hgt
  have c7' : ¬ (decide (n % 9 = 6) && !decide (o = .non)) = true := by
    rw [Bool.and_eq_true, decide_eq_true_eq, Bool.not_eq_true', decide_eq_false_iff_not]
    exact c7
  by_cases c8 : n % 9 = 7 ∧ (1 : Int) < st0.length + 1
  · refine ⟨_, _, ?_, .stop (by omega)⟩
    rw [seq_nx (ρ1 := ρ) (M1 := M.set 1 (.lst st0)) (by
      rw [if_ok hc7, if_neg c7', if_ok hc8, if_pos (by simp [c8.1]; omega)]
      exact ex_ok (d := .tup [.ptr p, o]) ((eMt_ok (a := .ptr 1) (l := []) (M1 := M) (M2 := M) rfl tyS rfl).trans (pop_last h.st)))]
    rfl
  · refine ⟨_, _, ?_, .no⟩
    rw [seq_nx (ρ1 := ρ) (M1 := M) (by
      rw [if_ok hc7, if_neg c7', if_ok hc8, if_neg (by
        rw [Bool.and_eq_true, decide_eq_true_eq, decide_eq_true_eq]
        exact c8)]
      rfl)]
    rfl
end
end MM.Law

namespace MM.Law
open PySem PySem.Spec PyProof.Rows L2 TL
/-! ### the tree while it is built -/
inductive Kd where
  | top | ifB (a : Int) (e : Ex) (q : Nat) | ifE (a : Int) (e : Ex) (bp : Nat) (blk : List St) | whB (a : Int) (e : Ex)
structure Fr where
  p : Nat
  ss : List St
  k : Kd
def Kd.o : Kd → D
  | .ifB _ _ q => .ptr q
  | _ => .non
def Fr.ent (f : Fr) : D := .tup [.ptr f.p, f.k.o]
def Fr.rep (f : Fr) : D := match f.k with
  | .ifB a e q => stIf a e f.p q
  | .ifE a e bp _ => stIf a e bp f.p
  | .whB a e => stWh a e f.p
  | .top => .non
def Kd.own : Kd → List Nat
  | .ifB _ _ q => [q]
  | _ => []
def Fr.own (f : Fr) : List Nat := f.p :: f.k.own
def Kd.mk (ss : List St) : Kd → List St
  | .top => []
  | .ifB a e _ => [.ifS a e ss []]
  | .ifE a e _ blk => [.ifS a e blk ss]
  | .whB a e => [.whl a e ss]
def Kd.op : Kd → List Item
  | .top => []
  | .ifB a e _ => [(a, e, none)]
  | .ifE a e _ blk => (a, e, none) :: preL blk
  | .whB a e => [(a, e, none)]
def go : Kd → List St → List Fr → List St
  | _, ss, [] => ss
  | k, ss, f :: r => go f.k (f.ss ++ k.mk ss) r
def plug : List Fr → List St
  | [] => []
  | f :: r => go f.k f.ss r
def preC : List Fr → List Item
  | [] => []
  | f :: r => preC r ++ f.k.op ++ preL f.ss
def wfF : Kd → Nat → List Fr → Prop
  | k, p, [] => k = .top ∧ p = 0
  | k, _, f :: r => k ≠ .top ∧ wfF f.k f.p r
theorem mk_pre (ss : List St) : ∀ k : Kd, k ≠ .top → preL (k.mk ss) = k.op ++ preL ss
  | .top, h => absurd rfl h
  | .ifB a e q, _ => by simp [Kd.mk, preL, St.pre, Kd.op]
  | .ifE a e bp blk, _ => by simp [Kd.mk, preL, St.pre, Kd.op]
  | .whB a e, _ => by simp [Kd.mk, preL, St.pre, Kd.op]
theorem pre_go : ∀ (r : List Fr) (k : Kd) (p : Nat) (ss : List St), wfF k p r → preL (go k ss r) = preC r ++ k.op ++ preL ss
  | [], k, p, ss, h => by
    obtain ⟨rfl, _⟩ := h
    rfl
  | f :: r, k, p, ss, h => by
    show preL (go f.k (f.ss ++ k.mk ss) r) = (preC r ++ f.k.op ++ preL f.ss) ++ k.op ++ preL ss
    rw [pre_go r f.k f.p _ h.2, preL_app, mk_pre ss k h.1]
    simp
mutual
def comp (M : Mem) (P : Nat → Prop) : St → D → Prop
  | .set a x e, d => d = St.d (.set a x e)
  | .tell a e, d => d = St.d (.tell a e)
  | .ifS a e b o, d => ∃ k k' bs os, d = stIf a e k k' ∧ P k ∧ P k' ∧ M[k]? = some (.lst bs) ∧ M[k']? = some (.lst os) ∧ compL M P b bs ∧ compL M P o os
  | .whl a e b, d => ∃ k bs, d = stWh a e k ∧ P k ∧ M[k]? = some (.lst bs) ∧ compL M P b bs
def compL (M : Mem) (P : Nat → Prop) : List St → List D → Prop
  | [], ds => ds = []
  | s :: l, ds => ∃ d r, ds = d :: r ∧ comp M P s d ∧ compL M P l r
end
section
variable {M M' : Mem} {P P' : Nat → Prop}
mutual
theorem comp.keep (hM : ∀ k, P k → M'[k]? = M[k]?) (hP : ∀ k, P k → P' k) : ∀ (s : St) (d : D), comp M P s d → comp M' P' s d
  | .set _ _ _, _, h => h
  | .tell _ _, _, h => h
  | .ifS a e b o, d, h => by
    obtain ⟨k, k', bs, os, h1, h2, h3, h4, h5, h6, h7⟩ := h
    exact ⟨k, k', bs, os, h1, hP _ h2, hP _ h3, (hM _ h2).trans h4, (hM _ h3).trans h5, compL.keep hM hP b bs h6, compL.keep hM hP o os h7⟩
  | .whl a e b, d, h => by
    obtain ⟨k, bs, h1, h2, h4, h6⟩ := h
    exact ⟨k, bs, h1, hP _ h2, (hM _ h2).trans h4, compL.keep hM hP b bs h6⟩
theorem compL.keep (hM : ∀ k, P k → M'[k]? = M[k]?) (hP : ∀ k, P k → P' k) : ∀ (l : List St) (ds : List D), compL M P l ds → compL M' P' l ds
  | [], _, h => h
  | s :: l, ds, h => by
    obtain ⟨d, r, h1, h2, h3⟩ := h
    exact ⟨d, r, h1, comp.keep hM hP s d h2, compL.keep hM hP l r h3⟩
end
theorem compL.app : ∀ {l m : List St} {ds es : List D}, compL M P l ds → compL M P m es → compL M P (l ++ m) (ds ++ es)
  | [], m, ds, es, h, h2 => by
    obtain rfl : ds = [] := h
    exact h2
  | s :: l, m, ds, es, h, h2 => by
    obtain ⟨d, r, rfl, h3, h4⟩ := h
    exact ⟨d, r ++ es, rfl, h3, compL.app h4 h2⟩
theorem compL.len : ∀ {l : List St} {ds : List D}, compL M P l ds → ds.length = l.length
  | [], ds, h => by
    obtain rfl : ds = [] := h
    rfl
  | s :: l, ds, h => by
    obtain ⟨d, r, rfl, _, h4⟩ := h
    rw [List.length_cons, List.length_cons, compL.len h4]
def kOk (M : Mem) (P : Nat → Prop) : Kd → Prop
  | .ifB _ _ q => M[q]? = some (.lst [])
  | .ifE _ _ bp blk => P bp ∧ ∃ bs, M[bp]? = some (.lst bs) ∧ compL M P blk bs
  | _ => True
def chain (M : Mem) (P : Nat → Prop) : List Fr → Option D → Prop
  | [], _ => True
  | f :: r, op => (∃ ds, M[f.p]? = some (.lst (ds ++ op.toList)) ∧ compL M P f.ss ds) ∧ kOk M P f.k ∧ chain M P r (some f.rep)
theorem kOk.keep {k : Kd} (hM : ∀ j, P j → M'[j]? = M[j]?) (hO : ∀ j ∈ k.own, M'[j]? = M[j]?) (hP : ∀ j, P j → P' j) (h : kOk M P k) : kOk M' P' k := by
  cases k with
  | ifB a e q => exact (hO q (by simp [Kd.own])).trans h
  | ifE a e bp blk =>
    obtain ⟨h1, bs, h2, h3⟩ := h
    exact ⟨hP _ h1, bs, (hM _ h1).trans h2, compL.keep hM hP _ _ h3⟩
  | top => trivial
  | whB a e => trivial
theorem chain.keep (hM : ∀ j, P j → M'[j]? = M[j]?) (hP : ∀ j, P j → P' j) : ∀ (fs : List Fr) (op : Option D), (∀ j ∈ fs.flatMap Fr.own, M'[j]? = M[j]?) → chain M P fs op → chain M' P' fs op
  | [], _, _, _ => trivial
  | f :: r, op, hO, h => by
    obtain ⟨⟨ds, h1, h2⟩, h3, h4⟩ := h
    rw [List.flatMap_cons] at hO
    refine ⟨⟨ds, (hO f.p (List.mem_append_left _ (by simp [Fr.own]))).trans h1, compL.keep hM hP _ _ h2⟩, h3.keep hM (fun j hj => hO j (List.mem_append_left _ (by simp [Fr.own, hj]))) hP, chain.keep hM hP r _ (fun j hj => hO j (List.mem_append_right _ hj)) h4⟩
end
def nst : List Fr → Prop
  | [] => True
  | f :: r => nestL f.ss + r.length ≤ 4 ∧ (∀ a e bp blk, f.k = .ifE a e bp blk → nestL blk + r.length ≤ 4) ∧ nst r
/-- between two rows: the frames, from the innermost -/
structure Inv0 (M : Mem) (f : Fr) (r : List Fr) (is : List Item) : Prop where
  st : M[1]? = some (.lst ((r.map Fr.ent).reverse ++ [f.ent]))
  ch : ∃ P : Nat → Prop, chain M P (f :: r) none ∧ (∀ k, P k → k < M.length ∧ k ≠ 1 ∧ k ≠ 2 ∧ k ≠ 3 ∧ k ∉ (f :: r).flatMap Fr.own)
  nd : ((f :: r).flatMap Fr.own).Nodup
  ow : ∀ k ∈ (f :: r).flatMap Fr.own, k < M.length ∧ k ≠ 1 ∧ k ≠ 2 ∧ k ≠ 3
  wf : wfF f.k f.p r
  ns : nst (f :: r)
  ln : r.length ≤ 4
  pr : preC (f :: r) = is
  ml : 4 ≤ M.length
theorem nestL_app : ∀ a b : List St, nestL (a ++ b) = max (nestL a) (nestL b)
  | [], b => by simp [nestL]
  | s :: a, b => by
    show max s.nest (nestL (a ++ b)) = max (max s.nest (nestL a)) (nestL b)
    rw [nestL_app a b]
    omega
def itemOf (a : Int) : D → List Item → Prop
  | d, [] => d = .tup [.non, .non]
  | d, [(b, e, nm)] => b = a ∧ d = .tup [e.d, match nm with | some x => .str x | none => .non]
  | _, _ => False
theorem row_step {M M' : Mem} {f : Fr} {r : List Fr} {is : List Item} (I : Inv0 M f r is) (xs : List Str) (hxs : ∀ x ∈ xs, Fine x) (a : Int) {out : D} {cell : List D} (hcell : M[f.p]? = some (.lst cell))
    (h : RowOut (p := f.p) (o := f.k.o) (st0 := (r.map Fr.ent).reverse) (cell := cell) (M := M) xs a out M') :
    ∃ f' r' new, Inv0 M' f' r' (is ++ new) ∧ itemOf a out new ∧ okI new ∧ new.length ≤ 1 ∧ M'[2]? = M[2]? ∧ M'[3]? = M[3]? := by
  obtain ⟨hst, ⟨P, hch, hP⟩, hnd, how, hwf, hns, hln, hpr, hml⟩ := I
  obtain ⟨⟨ds, c1, c2⟩, c3, c4⟩ := hch
  have hds : ds = cell := by
    rw [hcell] at c1
    have c1 := Option.some.inj c1
    injection c1 with c1
    simpa using c1.symm
  subst hds
  have hfp := how f.p (by simp [Fr.own])
  have hnd2 := hnd
  rw [List.flatMap_cons, List.nodup_append] at hnd2
  obtain ⟨hnf, hnr, hdis⟩ := hnd2
  have fpr : ∀ j ∈ r.flatMap Fr.own, j ≠ f.p := fun j hj e => hdis f.p (by simp [Fr.own]) j hj e.symm
  have fpk : ∀ j ∈ f.k.own, j ≠ f.p := fun j hj e => by
    subst e
    simp [Fr.own] at hnf
    exact hnf.1 hj
  have fpP : ∀ j, P j → j ≠ f.p := fun j hj e => (hP j hj).2.2.2.2 (by subst e; simp [Fr.own])
  have add : ∀ s : St, comp M' P s s.d → s.nest = 0 → M' = M.set f.p (.lst (ds ++ [s.d])) → Inv0 M' ⟨f.p, f.ss ++ [s], f.k⟩ r (is ++ s.pre) ∧ M'[2]? = M[2]? ∧ M'[3]? = M[3]? := by
    intro s hs h0 e
    subst e
    have ne : ∀ j, j ≠ f.p → (M.set f.p (.lst (ds ++ [s.d])))[j]? = M[j]? := fun j hj => List.getElem?_set_ne (Ne.symm hj)
    refine ⟨⟨?_, ⟨P, ⟨⟨ds ++ [s.d], ?_, ?_⟩, ?_, ?_⟩, ?_⟩, hnd, ?_, hwf, ?_, hln, ?_, by simpa using hml⟩, ne 2 (fun e => hfp.2.2.1 e.symm), ne 3 (fun e => hfp.2.2.2 e.symm)⟩
    · rw [ne 1 (fun e => hfp.2.1 e.symm)]
      exact hst
    · rw [List.getElem?_set_self hfp.1]
      simp
    · exact (compL.keep (fun j hj => ne j (fpP j hj)) (fun _ h => h) _ _ c2).app ⟨s.d, [], rfl, hs, rfl⟩
    · exact c3.keep (fun j hj => ne j (fpP j hj)) (fun j hj => ne j (fpk j hj)) fun _ h => h
    · exact chain.keep (fun j hj => ne j (fpP j hj)) (fun _ h => h) r _ (fun j hj => ne j (fpr j hj)) c4
    · intro k hk
      obtain ⟨h1, h2⟩ := hP k hk
      exact ⟨by simpa using h1, h2⟩
    · intro k hk
      obtain ⟨h1, h2⟩ := how k hk
      exact ⟨by simpa using h1, h2⟩
    · refine ⟨?_, hns.2⟩
      show nestL (f.ss ++ [s]) + r.length ≤ 4
      rw [nestL_app]
      have := hns.1
      show max (nestL f.ss) (max s.nest 0) + r.length ≤ 4
      rw [h0]
      omega
    · rw [← hpr]
      show preC r ++ f.k.op ++ preL (f.ss ++ [s]) = (preC r ++ f.k.op ++ preL f.ss) ++ s.pre
      rw [preL_app, show preL [s] = s.pre from by simp [preL]]
      simp
  cases h with
  | set e x he hd hx =>
    obtain ⟨h1, h2, h3⟩ := add (.set a x e) rfl rfl rfl
    refine ⟨_, _, [(a, e, some x)], h1, ⟨rfl, rfl⟩, fun i hi => ?_, Nat.le_refl _, h2, h3⟩
    obtain rfl : i = (a, e, some x) := by simpa using hi
    exact ⟨he, hd, fun y hy => by cases hy; exact hxs x hx⟩
  | tell e he hd =>
    obtain ⟨h1, h2, h3⟩ := add (.tell a e) rfl rfl rfl
    refine ⟨_, _, [(a, e, none)], h1, ⟨rfl, rfl⟩, fun i hi => ?_, Nat.le_refl _, h2, h3⟩
    obtain rfl : i = (a, e, none) := by simpa using hi
    exact ⟨he, hd, fun y hy => by cases hy⟩
  | opI e he hd h5 =>
    have h5 : r.length + 1 < 5 := by simpa using h5
    have kp : ∀ j, j < M.length → j ≠ f.p → j ≠ 1 → (((M ++ [MO.lst [], MO.lst []]).set f.p (.lst (ds ++ [stIf a e M.length (M.length + 1)]))).set 1 (.lst ((r.map Fr.ent).reverse ++ [.tup [.ptr f.p, f.k.o]] ++ [.tup [.ptr M.length, .ptr (M.length + 1)]])))[j]? = M[j]? := fun j h1 h2 h3 => by
      rw [List.getElem?_set_ne (Ne.symm h3), List.getElem?_set_ne (Ne.symm h2), List.getElem?_append_left h1]
    have kn : ∀ j, M.length ≤ j → j < M.length + 2 → (((M ++ [MO.lst [], MO.lst []]).set f.p (.lst (ds ++ [stIf a e M.length (M.length + 1)]))).set 1 (.lst ((r.map Fr.ent).reverse ++ [.tup [.ptr f.p, f.k.o]] ++ [.tup [.ptr M.length, .ptr (M.length + 1)]])))[j]? = some (.lst []) := fun j h1 h2 => by
      rw [List.getElem?_set_ne (by omega), List.getElem?_set_ne (by have := hfp.1; omega), List.getElem?_append_right h1]
      have : j - M.length = 0 ∨ j - M.length = 1 := by omega
      rcases this with e | e <;> rw [e] <;> rfl
    have k1 : (((M ++ [MO.lst [], MO.lst []]).set f.p (.lst (ds ++ [stIf a e M.length (M.length + 1)]))).set 1 (.lst ((r.map Fr.ent).reverse ++ [.tup [.ptr f.p, f.k.o]] ++ [.tup [.ptr M.length, .ptr (M.length + 1)]])))[1]? = some (.lst ((r.map Fr.ent).reverse ++ [.tup [.ptr f.p, f.k.o]] ++ [.tup [.ptr M.length, .ptr (M.length + 1)]])) := List.getElem?_set_self (by first | (simp; done) | (simp; omega))
    have kf : (((M ++ [MO.lst [], MO.lst []]).set f.p (.lst (ds ++ [stIf a e M.length (M.length + 1)]))).set 1 (.lst ((r.map Fr.ent).reverse ++ [.tup [.ptr f.p, f.k.o]] ++ [.tup [.ptr M.length, .ptr (M.length + 1)]])))[f.p]? = some (.lst (ds ++ [stIf a e M.length (M.length + 1)])) := by
      rw [List.getElem?_set_ne (Ne.symm hfp.2.1), List.getElem?_set_self (by simp; have := hfp.1; omega)]
    have kl : (((M ++ [MO.lst [], MO.lst []]).set f.p (.lst (ds ++ [stIf a e M.length (M.length + 1)]))).set 1 (.lst ((r.map Fr.ent).reverse ++ [.tup [.ptr f.p, f.k.o]] ++ [.tup [.ptr M.length, .ptr (M.length + 1)]]))).length = M.length + 2 := by simp
    generalize (((M ++ [MO.lst [], MO.lst []]).set f.p (.lst (ds ++ [stIf a e M.length (M.length + 1)]))).set 1 (.lst ((r.map Fr.ent).reverse ++ [.tup [.ptr f.p, f.k.o]] ++ [.tup [.ptr M.length, .ptr (M.length + 1)]]))) = M2 at kp kn k1 kf kl
    refine ⟨⟨M.length, [], .ifB a e (M.length + 1)⟩, f :: r, [(a, e, none)], ⟨?_, ⟨P, ⟨⟨[], kn M.length (Nat.le_refl _) (by omega), rfl⟩, kn (M.length + 1) (by omega) (by omega), ⟨ds, kf, compL.keep (fun j hj => kp j (hP j hj).1 (fpP j hj) (hP j hj).2.1) (fun _ h => h) _ _ c2⟩, c3.keep (fun j hj => kp j (hP j hj).1 (fpP j hj) (hP j hj).2.1) (fun j hj => kp j (how j (by simp [Fr.own, hj])).1 (fpk j hj) (how j (by simp [Fr.own, hj])).2.1) (fun _ h => h), chain.keep (fun j hj => kp j (hP j hj).1 (fpP j hj) (hP j hj).2.1) (fun _ h => h) r _ (fun j hj => kp j (how j (by rw [List.flatMap_cons]; exact List.mem_append_right _ hj)).1 (fpr j hj) (how j (by rw [List.flatMap_cons]; exact List.mem_append_right _ hj)).2.1) c4⟩, fun k hk => ?_⟩, ?_, fun k hk => ?_, ⟨(by intro z; cases z), hwf⟩, ⟨by show 0 + (r.length + 1) ≤ 4; omega, (fun _ _ _ _ z => by cases z), hns⟩, by show r.length + 1 ≤ 4; omega, ?_, by omega⟩, ⟨rfl, rfl⟩, fun i hi => ?_, Nat.le_refl _, kp 2 (by omega) (fun e => hfp.2.2.1 e.symm) (by decide), kp 3 (by omega) (fun e => hfp.2.2.2 e.symm) (by decide)⟩
    · rw [k1, List.map_cons, List.reverse_cons]
      rfl
    · obtain ⟨h1, h2, h3, h4, h6⟩ := hP k hk
      refine ⟨by omega, h2, h3, h4, ?_⟩
      rw [List.flatMap_cons, List.mem_append, not_or]
      refine ⟨?_, h6⟩
      simp [Fr.own, Kd.own]
      omega
    · rw [List.flatMap_cons, List.nodup_append]
      refine ⟨by simp [Fr.own, Kd.own], hnd, fun x hx y hy e => ?_⟩
      have := (how y hy).1
      simp [Fr.own, Kd.own] at hx
      omega
    · rw [List.flatMap_cons, List.mem_append] at hk
      rcases hk with hk | hk
      · simp [Fr.own, Kd.own] at hk
        omega
      · obtain ⟨h1, h2⟩ := how k hk
        exact ⟨by omega, h2⟩
    · rw [← hpr]
      show preC (f :: r) ++ [(a, e, none)] ++ preL [] = _
      simp [preL]
    · obtain rfl : i = (a, e, none) := by simpa using hi
      exact ⟨he, hd, fun y hy => by cases hy⟩
  | opW e he hd h5 =>
    have h5 : r.length + 1 < 5 := by simpa using h5
    have kp : ∀ j, j < M.length → j ≠ f.p → j ≠ 1 → (((M ++ [MO.lst []]).set f.p (.lst (ds ++ [stWh a e M.length]))).set 1 (.lst ((r.map Fr.ent).reverse ++ [.tup [.ptr f.p, f.k.o]] ++ [.tup [.ptr M.length, .non]])))[j]? = M[j]? := fun j h1 h2 h3 => by
      rw [List.getElem?_set_ne (Ne.symm h3), List.getElem?_set_ne (Ne.symm h2), List.getElem?_append_left h1]
    have kn : (((M ++ [MO.lst []]).set f.p (.lst (ds ++ [stWh a e M.length]))).set 1 (.lst ((r.map Fr.ent).reverse ++ [.tup [.ptr f.p, f.k.o]] ++ [.tup [.ptr M.length, .non]])))[M.length]? = some (.lst []) := by
      rw [List.getElem?_set_ne (by omega), List.getElem?_set_ne (by have := hfp.1; omega), List.getElem?_append_right (Nat.le_refl _), Nat.sub_self]
      rfl
    have k1 : (((M ++ [MO.lst []]).set f.p (.lst (ds ++ [stWh a e M.length]))).set 1 (.lst ((r.map Fr.ent).reverse ++ [.tup [.ptr f.p, f.k.o]] ++ [.tup [.ptr M.length, .non]])))[1]? = some (.lst ((r.map Fr.ent).reverse ++ [.tup [.ptr f.p, f.k.o]] ++ [.tup [.ptr M.length, .non]])) := List.getElem?_set_self (by first | (simp; done) | (simp; omega))
    have kf : (((M ++ [MO.lst []]).set f.p (.lst (ds ++ [stWh a e M.length]))).set 1 (.lst ((r.map Fr.ent).reverse ++ [.tup [.ptr f.p, f.k.o]] ++ [.tup [.ptr M.length, .non]])))[f.p]? = some (.lst (ds ++ [stWh a e M.length])) := by
      rw [List.getElem?_set_ne (Ne.symm hfp.2.1), List.getElem?_set_self (by simp; have := hfp.1; omega)]
    have kl : (((M ++ [MO.lst []]).set f.p (.lst (ds ++ [stWh a e M.length]))).set 1 (.lst ((r.map Fr.ent).reverse ++ [.tup [.ptr f.p, f.k.o]] ++ [.tup [.ptr M.length, .non]]))).length = M.length + 1 := by simp
    generalize (((M ++ [MO.lst []]).set f.p (.lst (ds ++ [stWh a e M.length]))).set 1 (.lst ((r.map Fr.ent).reverse ++ [.tup [.ptr f.p, f.k.o]] ++ [.tup [.ptr M.length, .non]]))) = M2 at kp kn k1 kf kl
    refine ⟨⟨M.length, [], .whB a e⟩, f :: r, [(a, e, none)], ⟨?_, ⟨P, ⟨⟨[], kn, rfl⟩, trivial, ⟨ds, kf, compL.keep (fun j hj => kp j (hP j hj).1 (fpP j hj) (hP j hj).2.1) (fun _ h => h) _ _ c2⟩, c3.keep (fun j hj => kp j (hP j hj).1 (fpP j hj) (hP j hj).2.1) (fun j hj => kp j (how j (by simp [Fr.own, hj])).1 (fpk j hj) (how j (by simp [Fr.own, hj])).2.1) (fun _ h => h), chain.keep (fun j hj => kp j (hP j hj).1 (fpP j hj) (hP j hj).2.1) (fun _ h => h) r _ (fun j hj => kp j (how j (by rw [List.flatMap_cons]; exact List.mem_append_right _ hj)).1 (fpr j hj) (how j (by rw [List.flatMap_cons]; exact List.mem_append_right _ hj)).2.1) c4⟩, fun k hk => ?_⟩, ?_, fun k hk => ?_, ⟨(by intro z; cases z), hwf⟩, ⟨by show 0 + (r.length + 1) ≤ 4; omega, (fun _ _ _ _ z => by cases z), hns⟩, by show r.length + 1 ≤ 4; omega, ?_, by omega⟩, ⟨rfl, rfl⟩, fun i hi => ?_, Nat.le_refl _, kp 2 (by omega) (fun e => hfp.2.2.1 e.symm) (by decide), kp 3 (by omega) (fun e => hfp.2.2.2 e.symm) (by decide)⟩
    · rw [k1, List.map_cons, List.reverse_cons]
      rfl
    · obtain ⟨h1, h2, h3, h4, h6⟩ := hP k hk
      refine ⟨by omega, h2, h3, h4, ?_⟩
      rw [List.flatMap_cons, List.mem_append, not_or]
      refine ⟨?_, h6⟩
      simp [Fr.own, Kd.own]
      omega
    · rw [List.flatMap_cons, List.nodup_append]
      refine ⟨by simp [Fr.own, Kd.own], hnd, fun x hx y hy e => ?_⟩
      have := (how y hy).1
      simp [Fr.own, Kd.own] at hx
      omega
    · rw [List.flatMap_cons, List.mem_append] at hk
      rcases hk with hk | hk
      · simp [Fr.own, Kd.own] at hk
        omega
      · obtain ⟨h1, h2⟩ := how k hk
        exact ⟨by omega, h2⟩
    · rw [← hpr]
      show preC (f :: r) ++ [(a, e, none)] ++ preL [] = _
      simp [preL]
    · obtain rfl : i = (a, e, none) := by simpa using hi
      exact ⟨he, hd, fun y hy => by cases hy⟩
  | els ho =>
    obtain ⟨p, ss, k⟩ := f
    cases k with
    | top => exact absurd rfl ho
    | ifE a e bp blk => exact absurd rfl ho
    | whB a e => exact absurd rfl ho
    | ifB a' e' q =>
      have hq := how q (by simp [Fr.own, Kd.own])
      have hqp : q ≠ p := by
        simp [Fr.own, Kd.own] at hnf
        exact fun e => hnf e.symm
      have hqr : q ∉ r.flatMap Fr.own := fun hj => hdis q (by simp [Fr.own, Kd.own]) q hj rfl
      have c3 : M[q]? = some (.lst []) := c3
      have kp : ∀ j, j ≠ 1 → (M.set 1 (.lst ((r.map Fr.ent).reverse ++ [.tup [Kd.o (.ifB a' e' q), .non]])))[j]? = M[j]? := fun j h3 => List.getElem?_set_ne (Ne.symm h3)
      have hP' : ∀ k, (P k ∨ k = p) → k < (M.set 1 (.lst ((r.map Fr.ent).reverse ++ [.tup [Kd.o (.ifB a' e' q), .non]]))).length ∧ k ≠ 1 ∧ k ≠ 2 ∧ k ≠ 3 ∧ k ∉ ((⟨q, [], .ifE a' e' p ss⟩ : Fr) :: r).flatMap Fr.own := fun k hk => by
        rw [List.flatMap_cons, List.mem_append, not_or]
        rcases hk with hk | rfl
        · obtain ⟨h1, h2, h3, h4, h6⟩ := hP k hk
          rw [List.flatMap_cons, List.mem_append, not_or] at h6
          refine ⟨by simpa using h1, h2, h3, h4, ?_, h6.2⟩
          have := h6.1
          simp [Fr.own, Kd.own] at this ⊢
          exact this.2
        · refine ⟨by simpa using hfp.1, hfp.2.1, hfp.2.2.1, hfp.2.2.2, ?_, fun hj => fpr _ hj rfl⟩
          simp [Fr.own, Kd.own]
          exact fun e => hqp e.symm
      refine ⟨⟨q, [], .ifE a' e' p ss⟩, r, [], ⟨?_, ⟨fun k => P k ∨ k = p, ⟨⟨[], (kp q hq.2.1).trans c3, rfl⟩, ⟨.inr rfl, ds, ?_, compL.keep (fun j hj => kp j (hP j hj).2.1) (fun _ h => .inl h) _ _ c2⟩, chain.keep (fun j hj => kp j (hP j hj).2.1) (fun _ h => .inl h) r _ (fun j hj => kp j (how j (by rw [List.flatMap_cons]; exact List.mem_append_right _ hj)).2.1) c4⟩, hP'⟩, ?_, fun k hk => ?_, ?_, ⟨?_, ?_, hns.2.2⟩, hln, ?_, by simpa using hml⟩, rfl, (fun i hi => nomatch hi), Nat.zero_le _, kp 2 (by decide), kp 3 (by decide)⟩
      · rw [List.getElem?_set_self (by omega)]
        rfl
      · rw [kp p hfp.2.1, hcell]
      · rw [List.flatMap_cons, List.nodup_append]
        exact ⟨by simp [Fr.own, Kd.own], hnr, fun x hx y hy e => by
          simp [Fr.own, Kd.own] at hx
          subst hx e
          exact hqr hy⟩
      · rw [List.flatMap_cons, List.mem_append] at hk
        rcases hk with hk | hk
        · simp [Fr.own, Kd.own] at hk
          subst hk
          exact ⟨by simpa using hq.1, hq.2⟩
        · obtain ⟨h1, h2⟩ := how k (by rw [List.flatMap_cons]; exact List.mem_append_right _ hk)
          exact ⟨by simpa using h1, h2⟩
      · cases r with
        | nil => exact absurd hwf.1 (by intro z; cases z)
        | cons g r => exact ⟨(by intro z; cases z), hwf.2⟩
      · have := hns.1
        show 0 + r.length ≤ 4
        omega
      · intro a2 e2 bp2 blk2 hz
        injection hz with h1 h2 h3 h4
        subst h4
        exact hns.1
      · rw [← hpr, List.append_nil]
        show preC r ++ ((a', e', none) :: preL ss) ++ preL [] = preC r ++ [(a', e', none)] ++ preL ss
        simp [preL]
  | stop hr =>
    cases r with
    | nil => simp at hr
    | cons g r =>
      obtain ⟨p, ss, k⟩ := f
      obtain ⟨⟨es, g1, g2⟩, g3, g4⟩ := c4
      have kp : ∀ j, j ≠ 1 → (M.set 1 (.lst (((g :: r).map Fr.ent).reverse)))[j]? = M[j]? := fun j h3 => List.getElem?_set_ne (Ne.symm h3)
      have kP : ∀ j, P j → (M.set 1 (.lst (((g :: r).map Fr.ent).reverse)))[j]? = M[j]? := fun j hj => kp j (hP j hj).2.1
      have hgp := how g.p (by simp [Fr.own])
      have up : ∀ j, P j → (P j ∨ j ∈ (⟨p, ss, k⟩ : Fr).own) := fun _ h => .inl h
      have hmk : ∃ d, (Fr.mk p ss k).rep = d ∧ compL (M.set 1 (.lst (((g :: r).map Fr.ent).reverse))) (fun j => P j ∨ j ∈ (⟨p, ss, k⟩ : Fr).own) (k.mk ss) [d] := by
        refine ⟨_, rfl, ?_⟩
        have cp : (M.set 1 (.lst (((g :: r).map Fr.ent).reverse)))[p]? = some (.lst ds) := (kp p hfp.2.1).trans hcell
        have c2' := compL.keep kP up _ _ c2
        cases k with
        | top => exact absurd rfl hwf.1
        | ifB a' e' q =>
          have hq := how q (by simp [Fr.own, Kd.own])
          exact ⟨_, [], rfl, ⟨p, q, ds, [], rfl, .inr (by simp [Fr.own]), .inr (by simp [Fr.own, Kd.own]), cp, (kp q hq.2.1).trans c3, c2', rfl⟩, rfl⟩
        | ifE a' e' bp blk =>
          obtain ⟨b1, bs, b2, b3⟩ := c3
          exact ⟨_, [], rfl, ⟨bp, p, bs, ds, rfl, .inl b1, .inr (by simp [Fr.own]), (kP bp b1).trans b2, cp, compL.keep kP up _ _ b3, c2'⟩, rfl⟩
        | whB a' e' => exact ⟨_, [], rfl, ⟨p, ds, rfl, .inr (by simp [Fr.own]), cp, c2'⟩, rfl⟩
      obtain ⟨d, hd, hcomp⟩ := hmk
      refine ⟨⟨g.p, g.ss ++ k.mk ss, g.k⟩, r, [], ⟨?_, ⟨fun j => P j ∨ j ∈ (⟨p, ss, k⟩ : Fr).own, ⟨⟨es ++ [d], ?_, (compL.keep kP up _ _ g2).app hcomp⟩, g3.keep kP (fun j hj => kp j (how j (by simp [Fr.own, hj])).2.1) up, chain.keep kP up r _ (fun j hj => kp j (how j (by rw [List.flatMap_cons, List.flatMap_cons]; exact List.mem_append_right _ (List.mem_append_right _ hj))).2.1) g4⟩, fun j hj => ?_⟩, ?_, fun j hj => ?_, hwf.2, ⟨?_, ?_, hns.2.2.2.2⟩, by have : r.length + 1 ≤ 4 := hln; omega, ?_, by simpa using hml⟩, rfl, (fun i hi => nomatch hi), Nat.zero_le _, kp 2 (by decide), kp 3 (by decide)⟩
      · rw [List.getElem?_set_self (by omega), List.map_cons, List.reverse_cons]
        rfl
      · rw [kp g.p hgp.2.1, g1, ← hd]
        simp
      · have hnr2 := hnr
        rcases hj with hj | hj
        · obtain ⟨h1, h2, h3, h4, h6⟩ := hP j hj
          refine ⟨by simpa using h1, h2, h3, h4, fun hm => h6 ?_⟩
          rw [List.flatMap_cons]
          exact List.mem_append_right _ hm
        · obtain ⟨h1, h2⟩ := how j (by rw [List.flatMap_cons]; exact List.mem_append_left _ hj)
          exact ⟨by simpa using h1, h2.1, h2.2.1, h2.2.2, fun hm => hdis j hj j hm rfl⟩
      · exact hnr
      · obtain ⟨h1, h2⟩ := how j (by rw [List.flatMap_cons]; exact List.mem_append_right _ hj)
        exact ⟨by simpa using h1, h2⟩
      · show nestL (g.ss ++ k.mk ss) + r.length ≤ 4
        rw [nestL_app]
        have n1 : nestL ss + (r.length + 1) ≤ 4 := hns.1
        have n2 : nestL g.ss + r.length ≤ 4 := hns.2.2.1
        have n3 : nestL (k.mk ss) + r.length ≤ 4 := by
          cases k with
          | top => exact absurd rfl hwf.1
          | ifB a' e' q =>
            show max (max (nestL ss) 0 + 1) 0 + r.length ≤ 4
            omega
          | ifE a' e' bp blk =>
            have n4 : nestL blk + (r.length + 1) ≤ 4 := hns.2.1 a' e' bp blk rfl
            show max (max (nestL blk) (nestL ss) + 1) 0 + r.length ≤ 4
            omega
          | whB a' e' =>
            show max (nestL ss + 1) 0 + r.length ≤ 4
            omega
        omega
      · exact hns.2.2.2.1
      · rw [← hpr, List.append_nil]
        show preC r ++ g.k.op ++ preL (g.ss ++ k.mk ss) = (preC r ++ g.k.op ++ preL g.ss) ++ k.op ++ preL ss
        rw [preL_app, mk_pre ss k hwf.1]
        simp
  | no => exact ⟨f, r, [], by rw [List.append_nil]; exact ⟨hst, ⟨P, ⟨⟨ds, c1, c2⟩, c3, c4⟩, hP⟩, hnd, how, hwf, hns, hln, hpr, hml⟩, rfl, (fun i hi => nomatch hi), Nat.zero_le _, rfl, rfl⟩
end MM.Law

namespace MM.Law
open PySem PySem.Spec PyProof.Rows L2 TL
/-! ### the built tree stands -/
abbrev TT0 : Nat → Prop := fun _ => True
theorem close {M : Mem} : ∀ (r : List Fr) (k : Kd) (p : Nat) (ss : List St) (ds : List D) (s0 : List St), M[p]? = some (.lst ds) → compL M TT0 ss ds → kOk M TT0 k → wfF k p r → chain M TT0 r (some (Fr.mk p s0 k).rep) → ∃ d0, M[0]? = some (.lst d0) ∧ compL M TT0 (go k ss r) d0
  | [], k, p, ss, ds, s0, h1, h2, h3, h4, h5 => by
    obtain ⟨rfl, rfl⟩ := h4
    exact ⟨ds, h1, h2⟩
  | f :: r, k, p, ss, ds, s0, h1, h2, h3, h4, h5 => by
    obtain ⟨⟨es, g1, g2⟩, g3, g4⟩ := h5
    refine close r f.k f.p (f.ss ++ k.mk ss) (es ++ [(Fr.mk p s0 k).rep]) f.ss g1 (g2.app ?_) g3 h4.2 g4
    cases k with
    | top => exact absurd rfl h4.1
    | ifB a e q => exact ⟨_, [], rfl, ⟨p, q, ds, [], rfl, trivial, trivial, h1, h3, h2, rfl⟩, rfl⟩
    | ifE a e bp blk =>
      obtain ⟨b1, bs, b2, b3⟩ := h3
      exact ⟨_, [], rfl, ⟨bp, p, bs, ds, rfl, trivial, trivial, b2, h1, b3, h2⟩, rfl⟩
    | whB a e => exact ⟨_, [], rfl, ⟨p, ds, rfl, trivial, h1, h2⟩, rfl⟩
theorem nest_go : ∀ (r : List Fr) (k : Kd) (p : Nat) (ss : List St), wfF k p r → nestL ss + r.length ≤ 4 → (∀ a e bp blk, k = .ifE a e bp blk → nestL blk + r.length ≤ 4) → nst r → nestL (go k ss r) ≤ 4
  | [], k, p, ss, _, h, _, _ => by
    show nestL ss ≤ 4
    simpa using h
  | f :: r, k, p, ss, hw, h, hk, hn => by
    have h : nestL ss + (r.length + 1) ≤ 4 := h
    refine nest_go r f.k f.p _ hw.2 ?_ hn.2.1 hn.2.2
    rw [nestL_app]
    have n2 := hn.1
    cases k with
    | top => exact absurd rfl hw.1
    | ifB a' e' q =>
      show max (nestL f.ss) (max (max (nestL ss) 0 + 1) 0) + r.length ≤ 4
      omega
    | ifE a' e' bp blk =>
      have n4 : nestL blk + (r.length + 1) ≤ 4 := hk a' e' bp blk rfl
      show max (nestL f.ss) (max (max (nestL blk) (nestL ss) + 1) 0) + r.length ≤ 4
      omega
    | whB a' e' =>
      show max (nestL f.ss) (max (nestL ss + 1) 0) + r.length ≤ 4
      omega
section
variable {M : Mem} {P : Nat → Prop}
theorem frz_nb {n : Nat} {l : List D} (h : ¬ bndL 0 l) : frz M (n + 1) (.tup l) = (frzL (frz M n) l).map .tup := by
  rw [frz, if_neg (show ¬ bnd 0 (.tup l) from h)]
theorem frz_p {n k : Nat} {l : List D} (e : M[k]? = some (.lst l)) : frz M (n + 1) (.ptr k) = (frzL (frz M n) l).map .lst := by
  rw [frz, if_neg (show ¬ bnd 0 (.ptr k) from Nat.not_lt_zero _)]
  rw [e]
mutual
theorem comp.frz : ∀ (s : St) (d : D) (n : Nat), comp M P s d → 2 * s.nest ≤ n → frz M n d = some s.d
  | .set a x e, d, n, h, _ => by
    obtain rfl : d = _ := h
    exact frz_b0 (St.bnd 0 _)
  | .tell a e, d, n, h, _ => by
    obtain rfl : d = _ := h
    exact frz_b0 (St.bnd 0 _)
  | .ifS a e b o, d, n, h, hn => by
    obtain ⟨k, k', bs, os, rfl, _, _, h4, h5, h6, h7⟩ := h
    have hn : 2 * (max (nestL b) (nestL o) + 1) ≤ n := hn
    obtain ⟨n, rfl⟩ : ∃ m, n = m + 2 := ⟨n - 2, by omega⟩
    have nb : ¬ bndL 0 [D.str "if", .int a, e.d, .ptr k, .ptr k'] := by simp
    unfold stIf
    rw [frz_nb nb]
    have e1 : MM.frz M (n + 1) (.ptr k) = some (.lst (dL b)) := by rw [frz_p h4, compL.frz b bs n h6 (by omega)]; rfl
    have e2 : MM.frz M (n + 1) (.ptr k') = some (.lst (dL o)) := by rw [frz_p h5, compL.frz o os n h7 (by omega)]; rfl
    have e3 : MM.frz M (n + 1) e.d = some e.d := frz_b0 (Ex.bnd 0 e)
    have e4 : MM.frz M (n + 1) (.str "if") = some (.str "if") := frz_b0 trivial
    have e5 : MM.frz M (n + 1) (.int a) = some (.int a) := frz_b0 trivial
    simp only [frzL, e1, e2, e3, e4, e5]
    rfl
  | .whl a e b, d, n, h, hn => by
    obtain ⟨k, bs, rfl, _, h4, h6⟩ := h
    have hn : 2 * (nestL b + 1) ≤ n := hn
    obtain ⟨n, rfl⟩ : ∃ m, n = m + 2 := ⟨n - 2, by omega⟩
    have nb : ¬ bndL 0 [D.str "while", .int a, e.d, .ptr k] := by simp
    unfold stWh
    rw [frz_nb nb]
    have e1 : MM.frz M (n + 1) (.ptr k) = some (.lst (dL b)) := by rw [frz_p h4, compL.frz b bs n h6 (by omega)]; rfl
    have e3 : MM.frz M (n + 1) e.d = some e.d := frz_b0 (Ex.bnd 0 e)
    have e4 : MM.frz M (n + 1) (.str "while") = some (.str "while") := frz_b0 trivial
    have e5 : MM.frz M (n + 1) (.int a) = some (.int a) := frz_b0 trivial
    simp only [frzL, e1, e3, e4, e5]
    rfl
theorem compL.frz : ∀ (l : List St) (ds : List D) (n : Nat), compL M P l ds → 2 * nestL l ≤ n → frzL (MM.frz M n) ds = some (dL l)
  | [], ds, n, h, _ => by
    obtain rfl : ds = [] := h
    rfl
  | s :: l, ds, n, h, hn => by
    obtain ⟨d, r, rfl, h3, h4⟩ := h
    have hn : 2 * max s.nest (nestL l) ≤ n := hn
    rw [frzL, comp.frz s d n h3 (by omega), Option.bind_some, compL.frz l r n h4 (by omega)]
    rfl
end
end
theorem Inv0.done {M : Mem} {f : Fr} {r : List Fr} {is : List Item} (I : Inv0 M f r is) {rs : List D} (hr : bndL 0 rs) : preL (plug (f :: r)) = is ∧ nestL (plug (f :: r)) ≤ 4 ∧ fin (.ok (.rt (.tup [.ptr 0, .lst rs])) M) = .ok (.tup [.lst (dL (plug (f :: r))), .lst rs]) := by
  obtain ⟨hst, ⟨P, hch, hP⟩, hnd, how, hwf, hns, hln, hpr, hml⟩ := I
  obtain ⟨⟨ds, c1, c2⟩, c3, c4⟩ := chain.keep (M' := M) (P' := TT0) (fun _ _ => rfl) (fun _ _ => trivial) (f :: r) none (fun _ _ => rfl) hch
  have hn : nestL (plug (f :: r)) ≤ 4 := nest_go r f.k f.p f.ss hwf hns.1 hns.2.1 hns.2.2
  refine ⟨(pre_go r f.k f.p f.ss hwf).trans hpr, hn, ?_⟩
  obtain ⟨d0, h1, h2⟩ := close r f.k f.p f.ss ds f.ss (by simpa using c1) c2 c3 hwf c4
  have e0 : frz M 12 (.tup [.ptr 0, .lst rs]) = some (.tup [.lst (dL (plug (f :: r))), .lst rs]) := by
    rw [frz_nb (n := 11) (by simp)]
    have e1 : frz M 11 (.ptr 0) = some (.lst (dL (plug (f :: r)))) := by
      rw [frz_p (n := 10) h1, compL.frz (plug (f :: r)) d0 10 h2 (by omega)]
      rfl
    have e2 : frz M 11 (.lst rs) = some (.lst rs) := frz_b0 hr
    simp only [frzL, e1, e2]
    rfl
  unfold fin
  dsimp only
  rw [e0]
/-! ### membership -/
theorem reads_fine : ∀ e : Ex, e.ok → ∀ x ∈ e.reads, Fine x
  | .num _, _, x, h => nomatch h
  | .tru _, _, x, h => nomatch h
  | .nam y, h, x, hx => by
    obtain rfl : x = y := by simpa [Ex.reads] using hx
    exact h
  | .ng e, h, x, hx => reads_fine e h x hx
  | .bin _ a b, h, x, hx => (List.mem_append.mp hx).elim (reads_fine a h.1 x) (reads_fine b h.2 x)
def fineL (st : Look) : Prop := (∀ p ∈ st.1, Fine p.2) ∧ ∀ x ∈ st.2, Fine x
theorem addP_mem {α : Type} [DecidableEq α] {l : List α} {p x : α} : x ∈ addP l p ↔ x ∈ l ∨ x = p := by
  unfold addP
  by_cases h : p ∈ l
  · rw [if_pos h]
    exact ⟨.inl, fun h2 => h2.elim id fun e => e ▸ h⟩
  · rw [if_neg h]
    simp
theorem notes_fine (a : Int) (ks : List Str) : ∀ (xs : List Str) (fs : List (Int × Str)), (∀ x ∈ xs, Fine x) → (∀ p ∈ fs, Fine p.2) → ∀ p ∈ notes a ks fs xs, Fine p.2
  | [], fs, _, h => h
  | x :: xs, fs, hx, h => notes_fine a ks xs (note1 a ks fs x) (fun y hy => hx y (List.mem_cons_of_mem _ hy)) fun p hp => by
    unfold note1 at hp
    split at hp
    · exact h p hp
    · rcases addP_mem.mp hp with hp | rfl
      · exact h p hp
      · exact hx x List.mem_cons_self
theorem run_fine : ∀ (is : List Item) (st : Look), okI is → fineL st → fineL (run st is)
  | [], st, _, h => h
  | i :: is, st, hi, h => run_fine is (run1 st i) (fun j hj => hi j (List.mem_cons_of_mem _ hj)) (by
    obtain ⟨h1, h2, h3⟩ := hi i List.mem_cons_self
    refine ⟨notes_fine _ _ _ _ (reads_fine _ h1) h.1, fun x hx => ?_⟩
    obtain ⟨a, e, nm⟩ := i
    cases nm with
    | none => exact h.2 x hx
    | some y =>
      rcases addP_mem.mp (show x ∈ addP st.2 y from hx) with hx | rfl
      · exact h.2 x hx
      · exact h3 x rfl)
theorem shaped_of {n : Nat} {d : D} (h : FD n d) (hn : n ≤ 64) : ∃ p, toPy d = some p ∧ SeqAt.shaped p = true := by
  obtain ⟨p, h1, h2, h3⟩ := h
  refine ⟨p, h1, ?_⟩
  unfold SeqAt.shaped
  rw [h2, Bool.true_and]
  exact decide_eq_true (by omega)
theorem nin_str {k : Nat} {ks : List Str} {x : Str} {M : Mem} (e : M[k]? = some (.lst (ks.map .str))) (hf : ∀ y ∈ ks, Fine y) (hx : Fine x) : ninA (.str x) (.ptr k) M = .ok (.bl (!decide (x ∈ ks))) M := by
  obtain ⟨p, h1, h2⟩ := shaped_of (FD.lst (n := 0) (l := ks.map D.str) fun d hd => by
    obtain ⟨y, hy, rfl⟩ := List.mem_map.mp hd
    exact FD.str (hf y hy)) (by omega)
  obtain ⟨q, h3, h4⟩ := shaped_of (FD.str hx) (by omega)
  have e1 : toPy (.lst (ks.map D.str)) = some (.list (ks.map .str)) := by rw [toPy, toPyL_strs]; rfl
  have e2 : toPy (.str x) = some (.str x) := rfl
  rw [e1] at h1
  rw [e2] at h3
  cases h1
  cases h3
  have hv : viewD M (.ptr k) = .lst (ks.map .str) := by
    unfold viewD
    dsimp only
    rw [e]
  have hin : (ks.map PyData.str).any (fun z => PyData.eqv z (.str x)) = decide (x ∈ ks) := by
    rw [List.any_map]
    clear e hf h2 e1 hv
    induction ks with
    | nil => rfl
    | cons y ks ih =>
      rw [List.any_cons, ih]
      show ((y == x) || _) = _
      by_cases h : y = x
      · subst h
        simp
      · have h' : ¬ x = y := fun z => h z.symm
        simp [h, h']
  unfold ninA inG
  rw [dctD_ptr e]
  dsimp only
  rw [show viewD M (.str x) = .str x from rfl, hv, e1, e2]
  dsimp only
  rw [if_pos ⟨h4, h2⟩, hin]
theorem eqv_key (p q : Int × Str) : PyData.eqv (kpy p) (kpy q) = decide (p = q) := by
  obtain ⟨a, x⟩ := p
  obtain ⟨b, y⟩ := q
  show ((a == b) && ((("unset" : Str) == "unset") && ((x == y) && true))) = _
  by_cases h1 : a = b <;> by_cases h2 : x = y <;> simp [h1, h2]
theorem nin_key {k : Nat} {fs : List (Int × Str)} {p : Int × Str} {M : Mem} (e : M[k]? = some (.lst (fs.map key))) (hf : ∀ q ∈ fs, Fine q.2) (hx : Fine p.2) : ninA (key p) (.ptr k) M = .ok (.bl (!decide (p ∈ fs))) M := by
  obtain ⟨p0, h1, h2⟩ := shaped_of (FD.lst (n := 1) (l := fs.map key) fun d hd => by
    obtain ⟨y, hy, rfl⟩ := List.mem_map.mp hd
    exact key_fd (hf y hy)) (by omega)
  obtain ⟨q, h3, h4⟩ := shaped_of (key_fd hx) (by omega)
  have e1 : toPy (.lst (fs.map key)) = some (.list (fs.map kpy)) := by rw [toPy, keys_py]; rfl
  have e2 : toPy (key p) = some (kpy p) := rfl
  rw [e1] at h1
  rw [e2] at h3
  cases h1
  cases h3
  have hv : viewD M (.ptr k) = .lst (fs.map key) := by
    unfold viewD
    dsimp only
    rw [e]
  have hin : (fs.map kpy).any (fun z => PyData.eqv z (kpy p)) = decide (p ∈ fs) := by
    rw [List.any_map]
    clear e hf h2 e1 hv
    induction fs with
    | nil => rfl
    | cons y fs ih =>
      rw [List.any_cons, ih, Function.comp_apply, eqv_key]
      by_cases h : y = p
      · subst h
        simp
      · have h' : ¬ p = y := fun z => h z.symm
        simp [h, h']
  unfold ninA inG
  rw [dctD_ptr e]
  dsimp only
  rw [show viewD M (key p) = key p from rfl, hv, e1, e2]
  dsimp only
  rw [if_pos ⟨h4, h2⟩, hin]
end MM.Law

namespace MM.Law
open PySem PySem.Spec PyProof.Rows L2 TL
/-! ### the law's own tree and what is due -/
section
variable (ns : List Int) (xs : List Str)
def rB (a b c d e : Option D) : Ro := [some (.scr (ns.map .int)), some (.lst (xs.map .str)), some (.ptr 0), some (.ptr 1), some (.ptr 2), some (.ptr 3), a, b, c, d, e]
/-- the state between two rows -/
structure InvB (M : Mem) (is : List Item) : Prop where
  iv : ∃ f r, Inv0 M f r is
  due : M[2]? = some (.lst ((run ([], []) is).1.map key))
  kn : ∃ known : List Str, M[3]? = some (.lst (known.map .str)) ∧ (∀ x, x ∈ known ↔ x ∈ (run ([], []) is).2) ∧ known.length ≤ is.length
  ok : okI is
  ln : is.length ≤ 20
theorem cost_le : ∀ is : List Item, okI is → cost is ≤ 9 * is.length
  | [], _ => Nat.le_refl _
  | i :: is, h => by
    have h1 := cost_le is fun j hj => h j (List.mem_cons_of_mem _ hj)
    have h2 := reads_len i.2.1
    have h3 : 2 ^ i.2.1.dep ≤ 2 ^ 3 := Nat.pow_le_pow_right (by decide) (h i List.mem_cons_self).2.1
    show i.2.1.reads.length + 1 + cost is ≤ 9 * (is.length + 1)
    omega
theorem Inv0.keep {M M' : Mem} {f : Fr} {r : List Fr} {is : List Item} (I : Inv0 M f r is) (h : ∀ j, j ≠ 2 → j ≠ 3 → M'[j]? = M[j]?) (hl : M'.length = M.length) : Inv0 M' f r is := by
  obtain ⟨hst, ⟨P, hch, hP⟩, hnd, how, hwf, hns, hln, hpr, hml⟩ := I
  exact ⟨(h 1 (by decide) (by decide)).trans hst, ⟨P, chain.keep (fun j hj => h j (hP j hj).2.2.1 (hP j hj).2.2.2.1) (fun _ z => z) _ _ (fun j hj => h j (how j hj).2.2.1 (how j hj).2.2.2) hch, fun k hk => by rw [hl]; exact hP k hk⟩, hnd, fun k hk => by rw [hl]; exact how k hk, hwf, hns, hln, hpr, by rw [hl]; exact hml⟩
/-- the reads of a row are looked up -/
theorem due_loop (z0 : Option D) (g : PF) (M : Mem) (a : Int) (w : Option D) (e : Ex) (ks known : List Str) (fs : List (Int × Str)) (nm : Option D) (hM2 : M[2]? = some (.lst (fs.map key))) (hM3 : M[3]? = some (.lst (known.map .str))) (hk : ∀ x, x ∈ known ↔ x ∈ ks)
    (hg : g [e.d] = .ok (.lst (e.reads.map .str))) (hfe : ∀ x ∈ e.reads, Fine x) (hfk : ∀ x ∈ known, Fine x) (hff : ∀ p ∈ fs, Fine p.2) (hl : fs.length + e.reads.length < 1000000) :
    ∃ z, sFor (iA (eCall 1 g (aCons (eVar 8) aNil))) (gNm 10) (sIf (bAnd (bOf (eBin ninA (eVar 10) (eVar 5))) (bOf (eBin ninA (eCa tupD (aCons (eVar 6) (aCons (eC (.str "unset")) (aCons (eVar 10) aNil)))) (eVar 4)))) (sEx (eMt "list" appD (eVar 4) (aCons (eCa tupD (aCons (eVar 6) (aCons (eC (.str "unset")) (aCons (eVar 10) aNil)))) aNil))) sNext)
      (rB ns xs (some (.int a)) w (some e.d) nm z0) M = .ok (.nx (rB ns xs (some (.int a)) w (some e.d) nm z)) (M.set 2 (.lst ((notes a ks fs e.reads).map key))) := by
  have h2 : 2 < M.length := (List.getElem?_eq_some_iff.mp hM2).1
  obtain ⟨ρ', M', e1, hM, z, hρ⟩ := sFor_nx (ρ := rB ns xs (some (.int a)) w (some e.d) nm z0) (M := M) (M0 := M) (it := ⟨e.reads.map .str, none⟩) (fi := iA (eCall 1 g (aCons (eVar 8) aNil))) (g := gNm 10)
    (body := sIf (bAnd (bOf (eBin ninA (eVar 10) (eVar 5))) (bOf (eBin ninA (eCa tupD (aCons (eVar 6) (aCons (eC (.str "unset")) (aCons (eVar 10) aNil)))) (eVar 4)))) (sEx (eMt "list" appD (eVar 4) (aCons (eCa tupD (aCons (eVar 6) (aCons (eC (.str "unset")) (aCons (eVar 10) aNil)))) aNil))) sNext)
    (fun j ρ M1 => M1 = M.set 2 (.lst ((notes a ks fs (e.reads.take j)).map key)) ∧ ∃ z, ρ = rB ns xs (some (.int a)) w (some e.d) nm z) (by
      unfold iA
      rw [call_ok (m := 1) (l := [e.d]) (M1 := M) rfl rfl ⟨Ex.bnd 0 e, trivial⟩ hg (bndL_strs _)]
      rfl) (by
      rintro j d ρ M1 hd ⟨rfl, z, rfl⟩
      have hd : (e.reads.map D.str)[j]? = some d := hd
      rw [List.getElem?_map] at hd
      cases hx : e.reads[j]? with
      | none => rw [hx] at hd; cases hd
      | some x =>
        rw [hx] at hd
        have hd : D.str x = d := Option.some.inj hd
        subst hd
        have hxm := List.mem_of_getElem? hx
        have et : e.reads.take (j + 1) = e.reads.take j ++ [x] := by
          rw [List.take_add_one, hx]
          rfl
        generalize hfs : notes a ks fs (e.reads.take j) = gs
        have hgl : gs.length < 1000000 := by
          have := notes_len a ks (e.reads.take j) fs
          rw [hfs] at this
          have h3 : (e.reads.take j).length ≤ e.reads.length := by rw [List.length_take]; omega
          omega
        have hgf : ∀ p ∈ gs, Fine p.2 := by
          rw [← hfs]
          exact notes_fine a ks _ fs (fun y hy => hfe y (List.mem_of_mem_take hy)) hff
        have e2 : (M.set 2 (.lst (gs.map key)))[2]? = some (.lst (gs.map key)) := List.getElem?_set_self h2
        have e3 : (M.set 2 (.lst (gs.map key)))[3]? = some (.lst (known.map .str)) := (List.getElem?_set_ne (by decide)).trans hM3
        let ρ2 : Ro := rB ns xs (some (.int a)) w (some e.d) nm (some (.str x))
        have c1 : bOf (eBin ninA (eVar 10) (eVar 5)) ρ2 (M.set 2 (.lst (gs.map key))) = .ok (!decide (x ∈ known)) (M.set 2 (.lst (gs.map key))) := bof_ok ((bin_ok (a := .str x) (b := .ptr 3) rfl rfl).trans (nin_str e3 hfk (hfe x hxm)))
        have c2 : bOf (eBin ninA (eCa tupD (aCons (eVar 6) (aCons (eC (.str "unset")) (aCons (eVar 10) aNil)))) (eVar 4)) ρ2 (M.set 2 (.lst (gs.map key))) = .ok (!decide ((a, x) ∈ gs)) (M.set 2 (.lst (gs.map key))) := bof_ok ((bin_ok (a := key (a, x)) (b := .ptr 2) rfl rfl).trans (nin_key e2 hgf (hfe x hxm)))
        refine ⟨trivial, _, rfl, ρ2, M.set 2 (.lst ((notes a ks fs (e.reads.take (j + 1))).map key)), .inl ?_, rfl, _, rfl⟩
        have en : notes a ks fs (e.reads.take (j + 1)) = note1 a ks gs x := by rw [et, notes_app, hfs]; rfl
        rw [en]
        refine (if_ok (band_ok c1 c2)).trans ?_
        unfold note1
        by_cases h1 : x ∈ ks
        · rw [if_pos h1, if_neg (by rw [decide_eq_true ((hk x).mpr h1)]; simp)]
          rfl
        · have h1' : decide (x ∈ known) = false := decide_eq_false fun z => h1 ((hk x).mp z)
          rw [if_neg h1, h1']
          by_cases h3 : (a, x) ∈ gs
          · rw [if_neg (by simp [h3])]
            unfold addP
            rw [if_pos h3]
            rfl
          · rw [if_pos (by simp [h3])]
            unfold addP
            rw [if_neg h3, List.map_append]
            refine ex_ok (d := .non) ((eMt_ok (a := .ptr 2) (l := [key (a, x)]) (M1 := _) (M2 := _) rfl (by unfold tyM; dsimp only; rw [e2]) rfl).trans ((app_ptr e2 (by rw [List.length_map]; exact hgl)).trans ?_))
            rw [List.set_set]
            rfl) (fun _ _ _ => trivial) ⟨by
      show M = M.set 2 (.lst (fs.map key))
      refine (List.ext_getElem? fun j => ?_)
      by_cases hj : j = 2
      · subst hj
        rw [List.getElem?_set_self h2, hM2]
      · rw [List.getElem?_set_ne (Ne.symm hj)], z0, rfl⟩
  refine ⟨z, ?_⟩
  rw [e1, hM, hρ]
  have : e.reads.take (e.reads.map D.str).length = e.reads := by rw [List.length_map, List.take_length]
  show Fl.ok _ (M.set 2 (.lst ((notes a ks fs (e.reads.take (e.reads.map D.str).length)).map key))) = _
  rw [this]
noncomputable def bodyB : SF := sSeq (sTgt (gTp 2 (gC (gNm 8) (gC (gNm 9) gN))) (eCallM 4 G_law_row (aCons (eVar 3) (aCons (eCall 2 G_law_mixed (aCons (eVar 7) (aCons (eVar 6) aNil))) (aCons (eVar 6) (aCons (eVar 1) aNil))))))
    (sSeq (sIf (bOf (eBin isNotD (eVar 8) (eC .non))) (sFor (iA (eCall 1 (G_law_reads 5) (aCons (eVar 8) aNil))) (gNm 10) (sIf (bAnd (bOf (eBin ninA (eVar 10) (eVar 5))) (bOf (eBin ninA (eCa tupD (aCons (eVar 6) (aCons (eC (.str "unset")) (aCons (eVar 10) aNil)))) (eVar 4)))) (sEx (eMt "list" appD (eVar 4) (aCons (eCa tupD (aCons (eVar 6) (aCons (eC (.str "unset")) (aCons (eVar 10) aNil)))) aNil))) sNext)) sNext)
    (sIf (bOf (eBin isNotD (eVar 9) (eC .non))) (sEx (eMt "list" appD (eVar 5) (aCons (eVar 9) aNil))) sNext))
theorem body_ok (hx : xs.length = 4) (hf : ∀ x ∈ xs, Fine x) (M : Mem) (is : List Item) (I : InvB M is) (hl : is.length ≤ 19) (a cell : Int) (u v z : Option D) :
    ∃ u' v' z' M' new, bodyB (rB ns xs (some (.int a)) (some (.int cell)) u v z) M = .ok (.nx (rB ns xs (some (.int a)) (some (.int cell)) u' v' z')) M' ∧ InvB M' (is ++ new) ∧ new.length ≤ 1 := by
  obtain ⟨⟨f, r, I0⟩, hdue, ⟨known, hkn, hkm, hkl⟩, hok, hln⟩ := I
  obtain ⟨P, ⟨⟨ds, c1, c2⟩, _, _⟩, _⟩ := I0.ch
  have hfp := I0.ow f.p (by simp [Fr.own])
  have hml := I0.ml
  have hdl : ds.length ≤ is.length := by
    rw [c2.len, ← I0.pr]
    have := preL_len f.ss
    show f.ss.length ≤ (preC r ++ f.k.op ++ preL f.ss).length
    rw [List.length_append]
    omega
  have hrl := I0.ln
  have hat : At f.p f.k.o (r.map Fr.ent).reverse ds M := ⟨I0.st, by simpa using c1, hfp.2.1, by simp; omega, by omega⟩
  obtain ⟨out, M1, hrow, hout⟩ := g_row hat xs hx hf (mixN cell a) a (mix_nn _ _) hfp.1 (by omega) (by
    cases f.k with
    | ifB a e q => exact .inr ⟨q, rfl⟩
    | _ => exact .inl rfl)
  obtain ⟨f', r', new, I1, hit, hokn, hnl, m2, m3⟩ := row_step I0 xs hf a hat.ce hout
  have hok2 : okI (is ++ new) := fun i hi => (List.mem_append.mp hi).elim (hok i) (hokn i)
  have hrun := run_fine is ([], []) hok ⟨(fun _ h => nomatch h), (fun _ h => nomatch h)⟩
  have hcost := cost_le is hok
  have hrle := run_le is ([], [])
  have hrle1 : (run ([], []) is).1.length ≤ cost is := by simpa using hrle.1
  have hcall : ∀ ρ : Ro, ρ = rB ns xs (some (.int a)) (some (.int cell)) u v z → eCallM 4 G_law_row (aCons (eVar 3) (aCons (eCall 2 G_law_mixed (aCons (eVar 7) (aCons (eVar 6) aNil))) (aCons (eVar 6) (aCons (eVar 1) aNil)))) ρ M = .ok out M1 := fun ρ hρ => by
    subst hρ
    unfold eCallM
    rw [acons_ok (a := .ptr 1) (l := [.int (mixN cell a), .int a, .lst (xs.map .str)]) (M1 := M) (M2 := M) rfl (acons_ok (M1 := M) (call_ok (m := 2) (l := [.int cell, .int a]) (M1 := M) rfl rfl (by simp) (g_mixed cell a) trivial) rfl), Fl.bind_ok, if_pos (show ([D.ptr 1, .int (mixN cell a), .int a, .lst (xs.map .str)] : List D).length = 4 from rfl)]
    exact hrow
  unfold bodyB
  match new, hit, hnl with
  | [], hit, _ =>
    have hit : out = .tup [.non, .non] := hit
    subst hit
    refine ⟨some .non, some .non, z, M1, [], ?_, ⟨⟨f', r', I1⟩, by rw [m2, List.append_nil]; exact hdue, ⟨known, by rw [m3]; exact hkn, by rw [List.append_nil]; exact hkm, by rw [List.append_nil]; exact hkl⟩, hok2, by rw [List.append_nil]; exact hln⟩, Nat.zero_le _⟩
    rw [seq_nx (ρ1 := rB ns xs (some (.int a)) (some (.int cell)) (some .non) (some .non) z) (M1 := M1) (by
      unfold sTgt
      rw [hcall _ rfl]
      rfl)]
    rw [seq_nx (ρ1 := rB ns xs (some (.int a)) (some (.int cell)) (some .non) (some .non) z) (M1 := M1) (by
      rw [if_ok (b := false) (M1 := M1) (bof_ok ((bin_ok (a := .non) (b := .non) rfl rfl).trans (by simp [isNotD])))]
      rfl)]
    rw [if_ok (b := false) (M1 := M1) (bof_ok ((bin_ok (a := .non) (b := .non) rfl rfl).trans (by simp [isNotD])))]
    rfl
  | [(b, e, nm)], hit, _ =>
    obtain ⟨rfl, rfl⟩ := hit
    obtain ⟨he1, he2, he3⟩ := hokn (b, e, nm) (by simp)
    have he2 : e.dep ≤ 3 := he2
    obtain ⟨l, hl2⟩ := e.tup
    have hne : ¬ e.d = .non := by rw [hl2]; intro z; cases z
    have hrd : e.reads.length ≤ 8 := by
      have := reads_len e
      have h3 : 2 ^ e.dep ≤ 2 ^ 3 := Nat.pow_le_pow_right (by decide) he2
      omega
    have hd1 : M1[2]? = some (.lst ((run ([], []) is).1.map key)) := m2.trans hdue
    have hk1 : M1[3]? = some (.lst (known.map .str)) := m3.trans hkn
    obtain ⟨z1, hz1⟩ := due_loop ns xs z (G_law_reads 5) M1 b (some (.int cell)) e (run ([], []) is).2 known (run ([], []) is).1 (some (match nm with | some x => .str x | none => .non)) hd1 hk1 hkm (g_reads e 5 (by omega) (by omega)) (reads_fine e he1) (fun x hx => hrun.2 x ((hkm x).mp hx)) hrun.1 (by omega)
    generalize hfs : notes b (run ([], []) is).2 (run ([], []) is).1 e.reads = fs at hz1
    have h2l : 2 < M1.length := by have := I1.ml; omega
    have h3l : 3 < M1.length := by have := I1.ml; omega
    have k3 : (M1.set 2 (.lst (fs.map key)))[3]? = some (.lst (known.map .str)) := (List.getElem?_set_ne (by decide)).trans hk1
    have hkl2 : known.length < 1000000 := by omega
    cases nm with
    | none =>
      refine ⟨some e.d, some .non, z1, M1.set 2 (.lst (fs.map key)), [(b, e, none)], ?_, ⟨⟨f', r', I1.keep (fun j h2 _ => List.getElem?_set_ne (Ne.symm h2)) (by simp)⟩, ?_, ⟨known, k3, ?_, ?_⟩, hok2, by simp; omega⟩, Nat.le_refl _⟩
      · rw [seq_nx (ρ1 := rB ns xs (some (.int b)) (some (.int cell)) (some e.d) (some .non) z) (M1 := M1) (by
          unfold sTgt
          rw [hcall _ rfl]
          rfl)]
        rw [seq_nx (ρ1 := rB ns xs (some (.int b)) (some (.int cell)) (some e.d) (some .non) z1) (M1 := M1.set 2 (.lst (fs.map key))) (by
          rw [if_ok (b := true) (M1 := M1) (bof_ok ((bin_ok (a := e.d) (b := .non) rfl rfl).trans (by rw [hl2]; rfl)))]
          exact hz1)]
        rw [if_ok (b := false) (M1 := M1.set 2 (.lst (fs.map key))) (bof_ok ((bin_ok (a := .non) (b := .non) rfl rfl).trans (by simp [isNotD])))]
        rfl
      · rw [List.getElem?_set_self h2l, run_app, ← hfs]
        rfl
      · rw [run_app]
        exact hkm
      · simp
        omega
    | some x =>
      have hxf : Fine x := he3 x rfl
      refine ⟨some e.d, some (.str x), z1, (M1.set 2 (.lst (fs.map key))).set 3 (.lst ((known ++ [x]).map .str)), [(b, e, some x)], ?_, ⟨⟨f', r', I1.keep (fun j h2 h3 => by rw [List.getElem?_set_ne (Ne.symm h3), List.getElem?_set_ne (Ne.symm h2)]) (by simp)⟩, ?_, ⟨known ++ [x], List.getElem?_set_self (by simpa using h3l), ?_, ?_⟩, hok2, by simp; omega⟩, Nat.le_refl _⟩
      · rw [seq_nx (ρ1 := rB ns xs (some (.int b)) (some (.int cell)) (some e.d) (some (.str x)) z) (M1 := M1) (by
          unfold sTgt
          rw [hcall _ rfl]
          rfl)]
        rw [seq_nx (ρ1 := rB ns xs (some (.int b)) (some (.int cell)) (some e.d) (some (.str x)) z1) (M1 := M1.set 2 (.lst (fs.map key))) (by
          rw [if_ok (b := true) (M1 := M1) (bof_ok ((bin_ok (a := e.d) (b := .non) rfl rfl).trans (by rw [hl2]; rfl)))]
          exact hz1)]
        rw [if_ok (b := true) (M1 := M1.set 2 (.lst (fs.map key))) (bof_ok ((bin_ok (a := .str x) (b := .non) rfl rfl).trans (by simp [isNotD]))), if_pos rfl]
        refine ex_ok (d := .non) ((eMt_ok (a := .ptr 3) (l := [.str x]) (M1 := _) (M2 := _) rfl (by unfold tyM; dsimp only; rw [k3]) rfl).trans ((app_ptr k3 (by rw [List.length_map]; exact hkl2)).trans ?_))
        rw [List.map_append]
        rfl
      · rw [List.getElem?_set_ne (by decide), List.getElem?_set_self h2l, run_app, ← hfs]
        rfl
      · intro y
        rw [run_app]
        show y ∈ known ++ [x] ↔ y ∈ addP (run ([], []) is).2 x
        rw [addP_mem, List.mem_append, hkm y]
        simp
      · simp
        omega
end
end MM.Law

namespace MM.Law
open PySem PySem.Spec PyProof.Rows L2 TL
theorem keys_bnd : ∀ {r : List D} {fs : List (Int × Str)}, (∀ d ∈ r, ∃ p ∈ fs, d = key p) → bndL 0 r := fun h => bndL_iff.mpr fun d hd => by
  obtain ⟨p, _, rfl⟩ := h d hd
  exact ⟨trivial, trivial, trivial, trivial⟩
theorem g_built (ns : List Int) : ∃ (ss : List St) (r : List D), G_law_built [.scr (ns.map .int)] = .ok (.tup [.lst (dL ss), .lst r]) ∧ sortL ((run ([], []) (preL ss)).1.map key) = some r ∧ (∀ d ∈ r, ∃ p ∈ (run ([], []) (preL ss)).1, d = key p) ∧ okI (preL ss) ∧ nestL ss ≤ 4 ∧ (preL ss).length ≤ 20 := by
  obtain ⟨xs, hxs, hx4, hxf⟩ := g_names (mixN (ns.getD 0 0) 9) (mix_nn _ _)
  unfold G_law_built B_law_built
  rw [show startR N_law_built [.scr (ns.map .int)] = [some (.scr (ns.map .int)), none, none, none, none, none, none, none, none, none, none] from rfl]
  rw [seq_nx (ρ1 := [some (.scr (ns.map .int)), some (.lst (xs.map .str)), none, none, none, none, none, none, none, none, none]) (M1 := []) (set_ok (call_ok (m := 1) (l := [.int (mixN (ns.getD 0 0) 9)]) (aone_ok (call_ok (m := 2) (l := [.int (ns.getD 0 0), .int 9]) (acons_ok (call_ok (m := 2) (l := [.scr (ns.map .int), .int 0]) rfl rfl (by simp) (g_cell ns 0) trivial) rfl) rfl (by simp) (g_mixed _ 9) trivial)) rfl (by simp) hxs (bndL_strs _)))]
  rw [seq_nx (ρ1 := [some (.scr (ns.map .int)), some (.lst (xs.map .str)), some (.ptr 0), none, none, none, none, none, none, none, none]) (M1 := [.lst []]) rfl]
  rw [seq_nx (ρ1 := [some (.scr (ns.map .int)), some (.lst (xs.map .str)), some (.ptr 0), some (.ptr 1), none, none, none, none, none, none, none]) (M1 := [.lst [], .lst [.tup [.ptr 0, .non]]]) rfl]
  rw [seq_nx (ρ1 := [some (.scr (ns.map .int)), some (.lst (xs.map .str)), some (.ptr 0), some (.ptr 1), some (.ptr 2), none, none, none, none, none, none]) (M1 := [.lst [], .lst [.tup [.ptr 0, .non]], .lst []]) rfl]
  rw [seq_nx (ρ1 := rB ns xs none none none none none) (M1 := [.lst [], .lst [.tup [.ptr 0, .non]], .lst [], .lst []]) rfl]
  have hlen : (cutL (ns.map D.int) (some 1) (some 21)).length ≤ 20 := by
    unfold cutL
    rw [List.length_take]
    have h1 : HT.sIx (ns.map D.int).length (ns.map D.int).length (some 21) ≤ 21 := by
      simp [HT.sIx]
      omega
    have h2 : HT.sIx (ns.map D.int).length 0 (some 1) = min 1 (ns.map D.int).length := by
      simp [HT.sIx]
    have : HT.sIx (ns.map D.int).length (ns.map D.int).length (some 21) - HT.sIx (ns.map D.int).length 0 (some 1) ≤ 20 ∨ (ns.map D.int).length = 0 := by
      rw [h2]
      omega
    rcases this with h | h
    · omega
    · rw [List.length_drop, h]
      omega
  have hints : ∀ d ∈ cutL (ns.map D.int) (some 1) (some 21), ∃ c : Int, d = .int c := fun d hd => by
    obtain ⟨c, _, rfl⟩ := List.mem_map.mp (List.mem_of_mem_drop (List.mem_of_mem_take hd))
    exact ⟨c, rfl⟩
  obtain ⟨ρ', M', e1, is, hI, hil, u1, u2, u3, u4, u5, hρ⟩ := sFor_nx (ρ := rB ns xs none none none none none) (M := [.lst [], .lst [.tup [.ptr 0, .non]], .lst [], .lst []]) (M0 := [.lst [], .lst [.tup [.ptr 0, .non]], .lst [], .lst []]) (it := ⟨enumL (cutL (ns.map D.int) (some 1) (some 21)), none⟩) (fi := iEn (eSlA (eVar 0) (oIx (eC (.int 1))) (oIx (eC (.int 21))))) (g := gTp 2 (gC (gNm 6) (gC (gNm 7) gN))) (body := bodyB)
    (fun j ρ M => ∃ is, InvB M is ∧ is.length ≤ j ∧ ∃ u1 u2 u3 u4 u5, ρ = rB ns xs u1 u2 u3 u4 u5) rfl (by
      rintro j d ρ M hd ⟨is, hI, hil, u1, u2, u3, u4, u5, rfl⟩
      obtain ⟨d', hd', rfl⟩ := enumL_get hd
      obtain ⟨c, rfl⟩ := hints d' (List.mem_of_getElem? hd')
      have hj : j < (cutL (ns.map D.int) (some 1) (some 21)).length := (List.getElem?_eq_some_iff.mp hd').1
      obtain ⟨v1, v2, v3, M2, new, hb, hI2, hnl⟩ := body_ok ns xs hx4 hxf M is hI (by omega) (j : Nat) c u3 u4 u5
      exact ⟨trivial, _, rfl, _, M2, .inl hb, is ++ new, hI2, by rw [List.length_append]; omega, _, _, _, _, _, rfl⟩) (fun _ _ _ => trivial) ⟨[], ⟨⟨⟨0, [], .top⟩, [], ⟨rfl, ⟨fun _ => False, ⟨⟨[], rfl, rfl⟩, trivial, trivial⟩, fun k h => h.elim⟩, by simp [Fr.own, Kd.own], fun k hk => by
        have : k = 0 := by simpa [Fr.own, Kd.own] using hk
        subst this
        decide, ⟨rfl, rfl⟩, ⟨by decide, (fun _ _ _ _ z => by cases z), trivial⟩, by decide, rfl, by decide⟩⟩, rfl, ⟨[], rfl, fun x => Iff.rfl, Nat.le_refl _⟩, (fun i hi => nomatch hi), by decide⟩, Nat.le_refl _, none, none, none, none, none, rfl⟩
  have hbody : bodyB = bodyB := rfl
  unfold bodyB at e1
  rw [seq_nx e1, hρ]
  obtain ⟨⟨f, r, I0⟩, hdue, ⟨known, hkn, hkm, hkl⟩, hok, hln⟩ := hI
  have hcost := cost_le is hok
  have hrle := run_le is ([], [])
  have hrle1 : (run ([], []) is).1.length ≤ cost is := by simpa using hrle.1
  obtain ⟨rs, hrs, hmem⟩ := srt (run ([], []) is).1 (by omega)
  obtain ⟨d1, d2, d3⟩ := I0.done (keys_bnd hmem)
  refine ⟨plug (f :: r), rs, ?_, by rw [d1]; exact hrs, by rw [d1]; exact hmem, by rw [d1]; exact hok, d2, by rw [d1]; exact hln⟩
  have hsort : eCa (sortA false) (aCons (eVar 4) aNil) (rB ns xs u1 u2 u3 u4 u5) M' = .ok (.lst rs) M' := by
    rw [ca_ok (l := [.ptr 2]) (M1 := M') (aone_ok rfl)]
    unfold sortA
    dsimp only
    rw [dctD_ptr hdue]
    dsimp only
    have hi : itemsD M' (.ptr 2) = some ((run ([], []) is).1.map key) := by
      unfold itemsD
      dsimp only
      rw [hdue]
    rw [hi]
    dsimp only
    rw [hrs]
    rfl
  refine (congrArg fin (ret_ok ((ca_ok (l := [.ptr 0, .lst rs]) (acons_ok rfl (aone_ok hsort))).trans rfl))).trans d3
/-! ### what was told is right -/
theorem g_right {r : List D} {fs : List (Int × Str)} (hm : ∀ d ∈ r, ∃ p ∈ fs, d = key p) (hf : ∀ p ∈ fs, Fine p.2) {k : Nat} {M : Mem} (e : M[k]? = some (.lst r)) (hl : r.length ≤ 1000000) : G_law_right [.ptr k, .lst r] M = .ok (.bl true) M := by
  unfold G_law_right B_law_right
  rw [show startR N_law_right [.ptr k, .lst r] = [some (.ptr k), some (.lst r), none] from rfl]
  have hfd : FD 2 (.lst r) := FD.lst fun d hd => by
    obtain ⟨p, hp, rfl⟩ := hm d hd
    exact key_fd (hf p hp)
  have c1 : bOf (eUn (isiD "list") (eVar 0)) [some (.ptr k), some (.lst r), none] M = .ok true M := by
    refine bof_ok ?_
    show isiD "list" (.ptr k) M = _
    unfold isiD tyD
    dsimp only
    rw [e]
    rfl
  have c2 : bOf (eBin neD (eVar 0) (eVar 1)) [some (.ptr k), some (.lst r), none] M = .ok false M := bof_ok ((bin_ok (a := .ptr k) (b := .lst r) rfl rfl).trans (ne_same rfl (by
    unfold viewD
    dsimp only
    rw [e]) (by exact hfd) (by omega)))
  rw [seq_nx (ρ1 := [some (.ptr k), some (.lst r), none]) (M1 := M) (by
    rw [if_ok (bor_ok (bnot_ok c1) c2)]
    rfl)]
  obtain ⟨ρ', M', e1, hM, z, hρ⟩ := sFor_nx (ρ := [some (.ptr k), some (.lst r), none]) (M := M) (M0 := M) (it := ⟨r, some k⟩) (fi := iA (eVar 0)) (g := gNm 2) (body := sIf (bOr (bNot (bOf (eUn (isiD "tuple") (eVar 2)))) (bOf (eUn (isiD "bool") (eBin ixA (eVar 2) (eC (.int 0)))))) (sRet (eC (.bl false))) sNext)
    (fun j ρ M2 => M2 = M ∧ ∃ z, ρ = [some (.ptr k), some (.lst r), z]) (by
      unfold iA
      rw [var_ok (d := .ptr k) rfl, Fl.bind_ok]
      dsimp only
      rw [e]) (by
      rintro j d ρ M2 hd ⟨rfl, z, rfl⟩
      obtain ⟨p, hp, rfl⟩ := hm d (List.mem_of_getElem? hd)
      refine ⟨e, _, rfl, [some (.ptr k), some (.lst r), some (key p)], M2, .inl ?_, rfl, _, rfl⟩
      have t1 : bOf (eUn (isiD "tuple") (eVar 2)) [some (.ptr k), some (.lst r), some (key p)] M2 = .ok true M2 := bof_ok rfl
      have t2 : bOf (eUn (isiD "bool") (eBin ixA (eVar 2) (eC (.int 0)))) [some (.ptr k), some (.lst r), some (key p)] M2 = .ok false M2 := by
        refine bof_ok ?_
        unfold eUn
        rw [(bin_ok (op := ixA) (fa := eVar 2) (fb := eC (.int 0)) (ρ := [some (.ptr k), some (.lst r), some (key p)]) (M := M2) (a := key p) (b := .int 0) rfl rfl).trans (ix0 _ _ _), Fl.bind_ok]
        show isiD "bool" (.int p.1) M2 = _
        unfold isiD tyD
        dsimp only
        rw [show kitB "int" "bool" = some false from by decide +kernel]
      exact (if_ok (bor_ok (bnot_ok t1) t2)).trans rfl) (fun ρ M2 h => by rw [h.1]; exact e) ⟨rfl, none, rfl⟩
  rw [seq_nx e1, hM]
  rfl
theorem law_true (C : Nat → Addr) : ∀ ns : List Int, ns.length ≤ 63 → G_law C [.scr (ns.map .int)] = .ok (.bl true) := by
  intro ns _
  obtain ⟨ss, r, hb, hs, hm, hok, hn, hl⟩ := g_built ns
  have hcost := cost_le (preL ss) hok
  have hd : dpI (preL ss) := fun i hi => (hok i hi).2.1
  have hrun := run_fine (preL ss) ([], []) hok ⟨(fun _ h => nomatch h), (fun _ h => nomatch h)⟩
  have hpl : ∀ M : Mem, G_plain_names C [.lst (dL ss)] M = .ok (.ptr M.length) (M ++ [.lst r]) := fun M => by
    obtain ⟨r2, h1, _, h3⟩ := g_plain C ss (by omega) hd (by omega) (by omega) M
    rw [hs] at h1
    cases h1
    exact h3
  have hrl : r.length ≤ 1000 := by
    have h2 := run_le (preL ss) ([], [])
    have h2 : (run ([], []) (preL ss)).1.length ≤ cost (preL ss) := by simpa using h2.1
    have := hs
    unfold sortL at this
    rw [keys_py] at this
    dsimp only at this
    split at this
    · have this := Option.some.inj this
      rw [← this, List.length_map, List.length_mergeSort, List.length_zip, List.length_map, List.length_map]
      omega
    · cases this
  unfold G_law B_law
  rw [show startR N_law [.scr (ns.map .int)] = [some (.scr (ns.map .int)), none, none, none] from rfl]
  have hbc : ∀ (ρ : Ro) (M : Mem), ρ[0]? = some (some (.scr (ns.map .int))) → eCall 1 G_law_built (aCons (eVar 0) aNil) ρ M = .ok (.tup [.lst (dL ss), .lst r]) M := fun ρ M h => call_ok (m := 1) (l := [.scr (ns.map .int)]) (aone_ok (var_ok h)) rfl (by simp) hb ⟨dL_bnd 0 ss, keys_bnd hm, trivial⟩
  rw [seq_nx (ρ1 := [some (.scr (ns.map .int)), some (.lst (dL ss)), some (.lst r), none]) (M1 := []) (by
    unfold sTgt
    rw [hbc _ _ rfl]
    rfl)]
  have hpc : ∀ (ρ : Ro) (M : Mem), ρ[1]? = some (some (.lst (dL ss))) → eCallM 1 (G_plain_names C) (aCons (eVar 1) aNil) ρ M = .ok (.ptr M.length) (M ++ [.lst r]) := fun ρ M h => by
    unfold eCallM
    rw [aone_ok (var_ok h), Fl.bind_ok, if_pos (show ([D.lst (dL ss)] : List D).length = 1 from rfl)]
    exact hpl M
  rw [seq_nx (ρ1 := [some (.scr (ns.map .int)), some (.lst (dL ss)), some (.lst r), some (.ptr 0)]) (M1 := [.lst r]) (set_ok (hpc _ _ rfl))]
  have c1 : bOf (eCallM 2 G_law_right (aCons (eVar 3) (aCons (eVar 2) aNil))) [some (.scr (ns.map .int)), some (.lst (dL ss)), some (.lst r), some (.ptr 0)] [.lst r] = .ok true [.lst r] := by
    refine bof_ok ?_
    unfold eCallM
    rw [acons_ok (a := .ptr 0) (l := [.lst r]) (M1 := [.lst r]) (M2 := [.lst r]) rfl rfl, Fl.bind_ok, if_pos (show ([D.ptr 0, .lst r] : List D).length = 2 from rfl)]
    exact g_right hm hrun.1 rfl (by omega)
  have c2 : bOf (eBin neD (eVar 1) (eBin ixA (eCall 1 G_law_built (aCons (eVar 0) aNil)) (eC (.int 0)))) [some (.scr (ns.map .int)), some (.lst (dL ss)), some (.lst r), some (.ptr 0)] [.lst r] = .ok false [.lst r] := by
    refine bof_ok ((bin_ok (a := .lst (dL ss)) (b := .lst (dL ss)) rfl ((bin_ok (hbc _ _ rfl) rfl (b := .int 0)).trans (ix0 _ _ _))).trans (ne_same rfl rfl (n := 6 + 2 * nestL ss) ?_ (by omega)))
    have := dL_fd ss hok
    exact (FD.lst this).mono (by omega)
  rw [seq_nx (ρ1 := [some (.scr (ns.map .int)), some (.lst (dL ss)), some (.lst r), some (.ptr 0)]) (M1 := [.lst r]) (by
    rw [if_ok (bor_ok (bnot_ok c1) c2)]
    rfl)]
  rw [seq_nx (ρ1 := [some (.scr (ns.map .int)), some (.lst (dL ss)), some (.lst r), some (.ptr 0)]) (M1 := [.lst (r ++ [key (0, "a")])]) (ex_ok (d := .non) ((eMt_ok (a := .ptr 0) (l := [key (0, "a")]) (M1 := [.lst r]) (M2 := [.lst r]) rfl rfl rfl).trans (app_ptr (l := r) rfl (by omega))))]
  refine (congrArg fin (ret_ok (d := .bl true) (M1 := [.lst (r ++ [key (0, "a")]), .lst r]) ?_)).trans (fin_rt trivial)
  unfold eCallM
  rw [acons_ok (a := .ptr 1) (l := [.lst r]) (M1 := [.lst (r ++ [key (0, "a")]), .lst r]) (M2 := [.lst (r ++ [key (0, "a")]), .lst r]) (by
    have := hpc [some (.scr (ns.map .int)), some (.lst (dL ss)), some (.lst r), some (.ptr 0)] [.lst (r ++ [key (0, "a")])] rfl
    unfold eCallM at this
    exact this) rfl, Fl.bind_ok, if_pos (show ([D.ptr 1, .lst r] : List D).length = 2 from rfl)]
  exact g_right hm hrun.1 rfl (by omega)
end MM.Law

namespace MM.Law
open PySem PySem.Spec PyProof.Rows L2
def topS (i : Nat) : Stmt := PySem.Challenge.pw_manymakes_k31_names_unset.main.body.getD i (.Pass ⟨0, 0, 0, 0⟩)
structure Tp (K : PySem.W.Frag) (mg : Str → Option Value) where
  Cl : Nat → Addr
  f_lifted_tree : Addr
  d_lifted_tree : FuncData
  F_lifted_tree : Fun K "lifted_tree" "lifted_tree" (topS 1) f_lifted_tree d_lifted_tree
  b_lifted_tree : Binds K d_lifted_tree ["tree"] []
  m_lifted_tree : mg "lifted_tree" = some (.ref f_lifted_tree)
  f_mask_without : Addr
  d_mask_without : FuncData
  F_mask_without : Fun K "mask_without" "mask_without" (topS 2) f_mask_without d_mask_without
  b_mask_without : Binds K d_mask_without ["mask", "other"] []
  m_mask_without : mg "mask_without" = some (.ref f_mask_without)
  f_NameLook_note : Addr
  d_NameLook_note : FuncData
  F_NameLook_note : Fun K "note" "NameLook.note" (inClass (topS 3) 1) f_NameLook_note d_NameLook_note
  b_NameLook_note : Binds K d_NameLook_note ["self", "mask", "at", "what", "name"] []
  t_NameLook_note : Meth K (Cl 0) "note" f_NameLook_note
  f_law_cell_at : Addr
  d_law_cell_at : FuncData
  F_law_cell_at : Fun K "_law_cell_at" "_law_cell_at" (topS 7) f_law_cell_at d_law_cell_at
  b_law_cell_at : Binds K d_law_cell_at ["_law_script", "_law_k"] []
  m_law_cell_at : mg "_law_cell_at" = some (.ref f_law_cell_at)
  f_law_mixed : Addr
  d_law_mixed : FuncData
  F_law_mixed : Fun K "_law_mixed" "_law_mixed" (topS 8) f_law_mixed d_law_mixed
  b_law_mixed : Binds K d_law_mixed ["_law_cell", "_law_k"] []
  m_law_mixed : mg "_law_mixed" = some (.ref f_law_mixed)
  f_law_word : Addr
  d_law_word : FuncData
  F_law_word : Fun K "_law_word" "_law_word" (topS 9) f_law_word d_law_word
  b_law_word : Binds K d_law_word ["_law_number"] []
  m_law_word : mg "_law_word" = some (.ref f_law_word)
  f_law_reads : Addr
  d_law_reads : FuncData
  F_law_reads : Fun K "_law_reads" "_law_reads" (topS 12) f_law_reads d_law_reads
  b_law_reads : Binds K d_law_reads ["_law_e"] []
  m_law_reads : mg "_law_reads" = some (.ref f_law_reads)
  f_law_opened : Addr
  d_law_opened : FuncData
  F_law_opened : Fun K "_law_opened" "_law_opened" (topS 13) f_law_opened d_law_opened
  b_law_opened : Binds K d_law_opened ["_law_stack", "_law_form", "_law_at", "_law_e"] []
  m_law_opened : mg "_law_opened" = some (.ref f_law_opened)
  f_law_right : Addr
  d_law_right : FuncData
  F_law_right : Fun K "_law_right" "_law_right" (topS 16) f_law_right d_law_right
  b_law_right : Binds K d_law_right ["_law_found", "_law_due"] []
  m_law_right : mg "_law_right" = some (.ref f_law_right)
  f_NameLook_first : Addr
  d_NameLook_first : FuncData
  F_NameLook_first : Fun K "first" "NameLook.first" (inClass (topS 3) 3) f_NameLook_first d_NameLook_first
  b_NameLook_first : Binds K d_NameLook_first ["self", "table", "name", "mask", "many"] []
  t_NameLook_first : Meth K (Cl 0) "first" f_NameLook_first
  f_NameLook_is_kind : Addr
  d_NameLook_is_kind : FuncData
  F_NameLook_is_kind : Fun K "is_kind" "NameLook.is_kind" (inClass (topS 3) 4) f_NameLook_is_kind d_NameLook_is_kind
  b_NameLook_is_kind : Binds K d_NameLook_is_kind ["self", "mask", "at", "kind"] []
  t_NameLook_is_kind : Meth K (Cl 0) "is_kind" f_NameLook_is_kind
  f_NameLook_uses : Addr
  d_NameLook_uses : FuncData
  F_NameLook_uses : Fun K "uses" "NameLook.uses" (inClass (topS 3) 9) f_NameLook_uses d_NameLook_uses
  b_NameLook_uses : Binds K d_NameLook_uses ["self", "table", "what", "expr", "mask", "at"] []
  t_NameLook_uses : Meth K (Cl 0) "uses" f_NameLook_uses
  f_law_names : Addr
  d_law_names : FuncData
  F_law_names : Fun K "_law_names" "_law_names" (topS 10) f_law_names d_law_names
  b_law_names : Binds K d_law_names ["_law_number"] []
  m_law_names : mg "_law_names" = some (.ref f_law_names)
  f_law_expr : Addr
  d_law_expr : FuncData
  F_law_expr : Fun K "_law_expr" "_law_expr" (topS 11) f_law_expr d_law_expr
  b_law_expr : Binds K d_law_expr ["_law_number", "_law_names_here", "_law_deep"] []
  m_law_expr : mg "_law_expr" = some (.ref f_law_expr)
  f_NameLook_gather : Addr
  d_NameLook_gather : FuncData
  F_NameLook_gather : Fun K "gather" "NameLook.gather" (inClass (topS 3) 2) f_NameLook_gather d_NameLook_gather
  b_NameLook_gather : Binds K d_NameLook_gather ["self", "mask", "statement", "named"] []
  t_NameLook_gather : Meth K (Cl 0) "gather" f_NameLook_gather
  f_NameLook_reads : Addr
  d_NameLook_reads : FuncData
  F_NameLook_reads : Fun K "reads" "NameLook.reads" (inClass (topS 3) 8) f_NameLook_reads d_NameLook_reads
  b_NameLook_reads : Binds K d_NameLook_reads ["self", "expr", "mask", "at", "known"] []
  t_NameLook_reads : Meth K (Cl 0) "reads" f_NameLook_reads
  f_NameLook_init : Addr
  d_NameLook_init : FuncData
  F_NameLook_init : Fun K "__init__" "NameLook.__init__" (inClass (topS 3) 0) f_NameLook_init d_NameLook_init
  b_NameLook_init : Binds K d_NameLook_init ["self", "tree", "mask"] []
  f_law_row : Addr
  d_law_row : FuncData
  F_law_row : Fun K "_law_row" "_law_row" (topS 14) f_law_row d_law_row
  b_law_row : Binds K d_law_row ["_law_stack", "_law_number", "_law_at", "_law_names_here"] []
  m_law_row : mg "_law_row" = some (.ref f_law_row)
  f_law_built : Addr
  d_law_built : FuncData
  F_law_built : Fun K "_law_built" "_law_built" (topS 15) f_law_built d_law_built
  b_law_built : Binds K d_law_built ["_law_script"] []
  m_law_built : mg "_law_built" = some (.ref f_law_built)
  f_NameLook_walk : Addr
  d_NameLook_walk : FuncData
  F_NameLook_walk : Fun K "walk" "NameLook.walk" (inClass (topS 3) 5) f_NameLook_walk d_NameLook_walk
  b_NameLook_walk : Binds K d_NameLook_walk ["self", "block", "mask", "known"] []
  t_NameLook_walk : Meth K (Cl 0) "walk" f_NameLook_walk
  f_NameLook_step : Addr
  d_NameLook_step : FuncData
  F_NameLook_step : Fun K "step" "NameLook.step" (inClass (topS 3) 6) f_NameLook_step d_NameLook_step
  b_NameLook_step : Binds K d_NameLook_step ["self", "statement", "mask", "known"] []
  t_NameLook_step : Meth K (Cl 0) "step" f_NameLook_step
  f_NameLook_define : Addr
  d_NameLook_define : FuncData
  F_NameLook_define : Fun K "define" "NameLook.define" (inClass (topS 3) 7) f_NameLook_define d_NameLook_define
  b_NameLook_define : Binds K d_NameLook_define ["self", "statement", "mask"] []
  t_NameLook_define : Meth K (Cl 0) "define" f_NameLook_define
  f_shared_names : Addr
  d_shared_names : FuncData
  F_shared_names : Fun K "shared_names" "shared_names" (topS 4) f_shared_names d_shared_names
  b_shared_names : Binds K d_shared_names ["tree", "mask"] []
  m_shared_names : mg "shared_names" = some (.ref f_shared_names)
  f_plain_names : Addr
  d_plain_names : FuncData
  F_plain_names : Fun K "plain_names" "plain_names" (topS 5) f_plain_names d_plain_names
  b_plain_names : Binds K d_plain_names ["tree"] []
  m_plain_names : mg "plain_names" = some (.ref f_plain_names)
  f_law : Addr
  d_law : FuncData
  F_law : Fun K "law" "law" (topS 17) f_law d_law
  b_law : Binds K d_law ["_law_script"] []
  m_law : mg "law" = some (.ref f_law)
  c_NameLook : Cls K (Cl 0)
  M_NameLook : Mk K (Cl 0) f_NameLook_init
  mC_NameLook : mg "NameLook" = some (.ref (Cl 0))
  n_NameLook_faults : NoAttr K (Cl 0) "faults"
  n_NameLook_defs : NoAttr K (Cl 0) "defs"
  n_NameLook_records : NoAttr K (Cl 0) "records"
  z_bool : mg "bool" = none
  z_enumerate : mg "enumerate" = none
  z_isinstance : mg "isinstance" = none
  z_len : mg "len" = none
  z_list : mg "list" = none
  z_range : mg "range" = none
  z_sorted : mg "sorted" = none
  z_tuple : mg "tuple" = none
section
variable {P : Program} {w : World} {K : PySem.W.Frag} {mg : Str → Option Value} {base : Heap}
theorem Tp.fl_faults (T : Tp K mg) : ∀ C ∈ [T.Cl 0], Cls K C ∧ NoAttr K C "faults" := fun C h => (List.mem_cons.mp h).elim (fun e => e ▸ ⟨T.c_NameLook, T.n_NameLook_faults⟩) ((fun C h => nomatch h) C)
theorem Tp.fl_defs (T : Tp K mg) : ∀ C ∈ [T.Cl 0], Cls K C ∧ NoAttr K C "defs" := fun C h => (List.mem_cons.mp h).elim (fun e => e ▸ ⟨T.c_NameLook, T.n_NameLook_defs⟩) ((fun C h => nomatch h) C)
theorem Tp.fl_records (T : Tp K mg) : ∀ C ∈ [T.Cl 0], Cls K C ∧ NoAttr K C "records" := fun C h => (List.mem_cons.mp h).elim (fun e => e ▸ ⟨T.c_NameLook, T.n_NameLook_records⟩) ((fun C h => nomatch h) C)
theorem sc_lifted_tree : FnScope ["tree", "found", "statement", "word"] ["tree"] (defScope (topS 1)) := ⟨rfl, rfl, rfl, by decide +kernel, rfl, by decide +kernel, by decide +kernel⟩
theorem okc_lifted_tree (T : Tp K mg) : ∀ n : Nat, FnOk P w K mg base CX0 (n + 1) T.f_lifted_tree T.d_lifted_tree ["tree"] (spP K w 1 (G_lifted_tree n))
  | 0 => T.F_lifted_tree.pure0 (k := 0) sc_lifted_tree
  | n + 1 => by
    have h_lifted_tree := okc_lifted_tree T n
    exact T.F_lifted_tree.pure (k := n + 1) sc_lifted_tree fun cdv A outer s H E hr => ⟨(B_lifted_tree (G_lifted_tree n)), by
        have hu := hr.units
        have hv := hr.units65
        have hx := hr.units80
        exact (xss_cons (xs_set (i := 1) sc_lifted_tree.nd (xe_lstP xa_nil))
        (xss_cons (xs_for PassesOwn.never rfl (xi_any (xe_var 0)) (xg_name (i := 2) sc_lifted_tree.nd) (xss_cons (xs_set (i := 3) sc_lifted_tree.nd (xe_ix (ix_any hu) os_ixA (xe_var 2) xe_int))
        (xss_cons (xs_if (xt_cmp (or_eqA hu) os_eq (xe_var 3) xe_str (nomark _)) (xss_one (xs_set (i := 2) sc_lifted_tree.nd (xe_bin or_addB (os_addB false) (xe_slA (xe_var 2) xo_none (xo_some xe_int)) (xe_tup (xa_cons (xe_call h_lifted_tree (hr.mono (by omega)) T.m_lifted_tree T.F_lifted_tree.kp T.b_lifted_tree pass0 (xa_cons (xe_ix (ix_any hu) os_ixA (xe_var 2) xe_int) xa_nil)) (xa_cons (xe_call h_lifted_tree (hr.mono (by omega)) T.m_lifted_tree T.F_lifted_tree.kp T.b_lifted_tree pass0 (xa_cons (xe_ix (ix_any hu) os_ixA (xe_var 2) xe_int) xa_nil)) xa_nil)))))) (xss_one (xs_if (xt_cmp (or_eqA hu) os_eq (xe_var 3) xe_str (nomark _)) (xss_one (xs_set (i := 2) sc_lifted_tree.nd (xe_bin or_addB (os_addB false) (xe_slA (xe_var 2) xo_none (xo_some xe_int)) (xe_tup (xa_cons (xe_call h_lifted_tree (hr.mono (by omega)) T.m_lifted_tree T.F_lifted_tree.kp T.b_lifted_tree pass0 (xa_cons (xe_ix (ix_any hu) os_ixA (xe_var 2) xe_int) xa_nil)) xa_nil))))) (xss_one (xs_if (xt_cmp (or_eqA hu) os_eq (xe_var 3) xe_str (nomark _)) (xss_one (xs_set (i := 2) sc_lifted_tree.nd (xe_bin or_addB (os_addB false) (xe_slA (xe_var 2) xo_none (xo_some xe_int)) (xe_tup (xa_cons (xe_call h_lifted_tree (hr.mono (by omega)) T.m_lifted_tree T.F_lifted_tree.kp T.b_lifted_tree pass0 (xa_cons (xe_ix (ix_any hu) os_ixA (xe_var 2) xe_int) xa_nil)) xa_nil))))) xss_nil)))))
        (xss_one (xs_expr (xe_bm PySem.F.plainAttrs_list PySem.F.slot_list_append PySem.F.type_list_append mt_append ms_append (xe_var 1) (xa_cons (xe_tup (xa_cons xe_int (xa_cons (xe_var 2) xa_nil))) xa_nil)))))))
        (xss_one (xs_ret (xe_var 1))))), fun ds _ _ => Pr.le_of rfl⟩
theorem ok_lifted_tree (T : Tp K mg) (n : Nat) : FnOk P w K mg base CX0 (n + 1) T.f_lifted_tree T.d_lifted_tree ["tree"] (spP K w 1 (G_lifted_tree n)) := okc_lifted_tree T n
theorem sc_mask_without : FnScope ["mask", "other"] ["mask", "other"] (defScope (topS 2)) := ⟨rfl, rfl, rfl, by decide +kernel, rfl, by decide +kernel, by decide +kernel⟩
theorem ok_mask_without (T : Tp K mg) : FnOk P w K mg base CX0 (1) T.f_mask_without T.d_mask_without ["mask", "other"] (spP K w 2 (G_mask_without)) :=
    T.F_mask_without.pure sc_mask_without fun cdv A outer s H E hr => ⟨(B_mask_without), by
        have hu := hr.units
        have hv := hr.units65
        have hx := hr.units80
        exact (xss_one (xs_ret (xe_bin op_xor os_xor (xe_var 0) (xe_bin op_and os_and (xe_var 0) (xe_var 1))))), fun ds _ _ => Pr.le_of rfl⟩
theorem sc_NameLook_note : FnScope ["self", "mask", "at", "what", "name", "fault"] ["self", "mask", "at", "what", "name"] (defScope (inClass (topS 3) 1)) := ⟨rfl, rfl, rfl, by decide +kernel, rfl, by decide +kernel, by decide +kernel⟩
theorem ok_NameLook_note (T : Tp K mg) : FnOk P w K mg base CX0 (1) T.f_NameLook_note T.d_NameLook_note ["self", "mask", "at", "what", "name"] (spM K w 5 (G_NameLook_note T.Cl)) :=
    T.F_NameLook_note.mem (B := (B_NameLook_note T.Cl)) sc_NameLook_note fun cdv A outer s H E hr => by
        have hu := hr.units
        have hv := hr.units65
        have hx := hr.units80
        exact (xss_one (xs_if (xt_cmp (or_neA hu) os_ne (xe_var 1) xe_int (nomark _)) (xss_cons (xs_set (i := 5) sc_NameLook_note.nd (xe_tup (xa_cons (xe_var 2) (xa_cons (xe_var 3) (xa_cons (xe_var 4) xa_nil)))))
        (xss_one (xs_setA hu (xe_fld T.fl_faults (xe_var 0)) (xe_var 5) (xe_bin op_or os_or (xe_md PySem.F.slot_dict_get PySem.F.type_dict_get (mt_get hu) ms_get (xe_fld T.fl_faults (xe_var 0)) (xa_cons (xe_var 5) (xa_cons xe_int xa_nil))) (xe_var 1))))) xss_nil))
theorem sc_law_cell_at : FnScope ["_law_script", "_law_k"] ["_law_script", "_law_k"] (defScope (topS 7)) := ⟨rfl, rfl, rfl, by decide +kernel, rfl, by decide +kernel, by decide +kernel⟩
theorem ok_law_cell_at (T : Tp K mg) : FnOk P w K mg base CX0 (1) T.f_law_cell_at T.d_law_cell_at ["_law_script", "_law_k"] (spP K w 2 (G_law_cell_at)) :=
    T.F_law_cell_at.pure sc_law_cell_at fun cdv A outer s H E hr => ⟨(B_law_cell_at), by
        have hu := hr.units
        have hv := hr.units65
        have hx := hr.units80
        exact (xss_cons (xs_if (xt_cmp op_lt os_lt (xe_var 1) (xe_callB cr_lenA cs_len T.z_len PySem.boot_len (xa_cons (xe_var 0) xa_nil)) (nomark _)) (xss_one (xs_ret (xe_ix (ix_any hu) os_ixA (xe_var 0) (xe_var 1)))) xss_nil)
        (xss_one (xs_ret xe_int))), fun ds _ _ => Pr.le_of rfl⟩
theorem sc_law_mixed : FnScope ["_law_cell", "_law_k", "_law_number"] ["_law_cell", "_law_k"] (defScope (topS 8)) := ⟨rfl, rfl, rfl, by decide +kernel, rfl, by decide +kernel, by decide +kernel⟩
theorem ok_law_mixed (T : Tp K mg) : FnOk P w K mg base CX0 (1) T.f_law_mixed T.d_law_mixed ["_law_cell", "_law_k"] (spP K w 2 (G_law_mixed)) :=
    T.F_law_mixed.pure sc_law_mixed fun cdv A outer s H E hr => ⟨(B_law_mixed), by
        have hu := hr.units
        have hv := hr.units65
        have hx := hr.units80
        exact (xss_cons (xs_set (i := 2) sc_law_mixed.nd (xe_bin op_mod os_mod (xe_bin op_mul os_mul (xe_bin or_addB (os_addB false) (xe_bin or_addB (os_addB false) (xe_var 0) (xe_bin op_mul os_mul xe_int (xe_var 1))) xe_int) xe_int) xe_int))
        (xss_one (xs_ret (xe_bin op_mod os_mod (xe_bin op_mul os_mul (xe_var 2) (xe_bin or_addB (os_addB false) (xe_bin op_fdiv os_div (xe_var 2) xe_int) xe_int)) xe_int)))), fun ds _ _ => Pr.le_of rfl⟩
theorem sc_law_word : FnScope ["_law_number", "_law_some", "_law_word_here", "_law_k"] ["_law_number"] (defScope (topS 9)) := ⟨rfl, rfl, rfl, by decide +kernel, rfl, by decide +kernel, by decide +kernel⟩
theorem ok_law_word (T : Tp K mg) : FnOk P w K mg base CX0 (1) T.f_law_word T.d_law_word ["_law_number"] (spP K w 1 (G_law_word)) :=
    T.F_law_word.pure sc_law_word fun cdv A outer s H E hr => ⟨(B_law_word), by
        have hu := hr.units
        have hv := hr.units65
        have hx := hr.units80
        exact (xss_cons (xs_set (i := 1) sc_law_word.nd xe_str)
        (xss_cons (xs_set (i := 2) sc_law_word.nd xe_str)
        (xss_cons (xs_for PassesOwn.never rfl (xi_range1 (xe_bin or_addB (os_addB false) xe_int (xe_bin op_mod os_mod (xe_var 0) xe_int)) T.z_range) (xg_name (i := 3) sc_law_word.nd) (xss_one (xs_set (i := 2) sc_law_word.nd (xe_bin or_addB (os_addB false) (xe_var 2) (xe_ix (ix_any hu) os_ixA (xe_var 1) (xe_bin op_mod os_mod (xe_bin op_fdiv os_div (xe_var 0) (xe_bin or_addB (os_addB false) xe_int (xe_bin op_mul os_mul xe_int (xe_var 3)))) xe_int))))))
        (xss_one (xs_ret (xe_var 2)))))), fun ds _ _ => Pr.le_of rfl⟩
theorem sc_law_reads : FnScope ["_law_e", "_law_found", "_law_part"] ["_law_e"] (defScope (topS 12)) := ⟨rfl, rfl, rfl, by decide +kernel, rfl, by decide +kernel, by decide +kernel⟩
theorem okc_law_reads (T : Tp K mg) : ∀ n : Nat, FnOk P w K mg base CX0 (n + 1) T.f_law_reads T.d_law_reads ["_law_e"] (spP K w 1 (G_law_reads n))
  | 0 => T.F_law_reads.pure0 (k := 0) sc_law_reads
  | n + 1 => by
    have h_law_reads := okc_law_reads T n
    exact T.F_law_reads.pure (k := n + 1) sc_law_reads fun cdv A outer s H E hr => ⟨(B_law_reads (G_law_reads n)), by
        have hu := hr.units
        have hv := hr.units65
        have hx := hr.units80
        exact (xss_cons (xs_if (xt_cmp (or_eqA hu) os_eq (xe_ix (ix_any hu) os_ixA (xe_var 0) xe_int) xe_str (nomark _)) (xss_one (xs_ret (xe_lstF (xa_cons (xe_ix (ix_any hu) os_ixA (xe_var 0) xe_int) xa_nil)))) xss_nil)
        (xss_cons (xs_set (i := 1) sc_law_reads.nd (xe_lstF xa_nil))
        (xss_cons (xs_if (xt_w (xw_and (xt_cmp (or_neA hu) os_ne (xe_ix (ix_any hu) os_ixA (xe_var 0) xe_int) xe_str (nomark _)) (xw_and1 (xt_cmp (or_neA hu) os_ne (xe_ix (ix_any hu) os_ixA (xe_var 0) xe_int) xe_str (nomark _))))) (xss_one (xs_for PassesOwn.never rfl (xi_any (xe_slA (xe_var 0) (xo_some xe_int) xo_none)) (xg_name (i := 2) sc_law_reads.nd) (xss_one (xs_set (i := 1) sc_law_reads.nd (xe_bin or_addB (os_addB false) (xe_var 1) (xe_call h_law_reads (hr.mono (by omega)) T.m_law_reads T.F_law_reads.kp T.b_law_reads pass0 (xa_cons (xe_var 2) xa_nil))))))) xss_nil)
        (xss_one (xs_ret (xe_var 1)))))), fun ds _ _ => Pr.le_of rfl⟩
theorem ok_law_reads (T : Tp K mg) (n : Nat) : FnOk P w K mg base CX0 (n + 1) T.f_law_reads T.d_law_reads ["_law_e"] (spP K w 1 (G_law_reads n)) := okc_law_reads T n
theorem sc_law_opened : FnScope ["_law_stack", "_law_form", "_law_at", "_law_e", "_law_block", "_law_other"] ["_law_stack", "_law_form", "_law_at", "_law_e"] (defScope (topS 13)) := ⟨rfl, rfl, rfl, by decide +kernel, rfl, by decide +kernel, by decide +kernel⟩
theorem ok_law_opened (T : Tp K mg) : FnOk P w K mg base CX0 (1) T.f_law_opened T.d_law_opened ["_law_stack", "_law_form", "_law_at", "_law_e"] (spM K w 4 (G_law_opened)) :=
    T.F_law_opened.mem (B := (B_law_opened)) sc_law_opened fun cdv A outer s H E hr => by
        have hu := hr.units
        have hv := hr.units65
        have hx := hr.units80
        exact (xss_cons (xs_set (i := 4) sc_law_opened.nd (xe_lstP xa_nil))
        (xss_one (xs_if (xt_cmp (or_eqA hu) os_eq (xe_var 1) xe_int (nomark _)) (xss_cons (xs_set (i := 5) sc_law_opened.nd (xe_lstP xa_nil))
        (xss_cons (xs_expr (xe_bm PySem.F.plainAttrs_list PySem.F.slot_list_append PySem.F.type_list_append mt_append ms_append (xe_ix (ix_any hu) os_ixA (xe_ix (ix_any hu) os_ixA (xe_var 0) (xe_un un_neg us_neg xe_int)) xe_int) (xa_cons (xe_tup (xa_cons xe_str (xa_cons (xe_var 2) (xa_cons (xe_var 3) (xa_cons (xe_var 4) (xa_cons (xe_var 5) xa_nil)))))) xa_nil)))
        (xss_one (xs_expr (xe_bm PySem.F.plainAttrs_list PySem.F.slot_list_append PySem.F.type_list_append mt_append ms_append (xe_var 0) (xa_cons (xe_tup (xa_cons (xe_var 4) (xa_cons (xe_var 5) xa_nil))) xa_nil)))))) (xss_cons (xs_expr (xe_bm PySem.F.plainAttrs_list PySem.F.slot_list_append PySem.F.type_list_append mt_append ms_append (xe_ix (ix_any hu) os_ixA (xe_ix (ix_any hu) os_ixA (xe_var 0) (xe_un un_neg us_neg xe_int)) xe_int) (xa_cons (xe_tup (xa_cons xe_str (xa_cons (xe_var 2) (xa_cons (xe_var 3) (xa_cons (xe_var 4) xa_nil))))) xa_nil)))
        (xss_one (xs_expr (xe_bm PySem.F.plainAttrs_list PySem.F.slot_list_append PySem.F.type_list_append mt_append ms_append (xe_var 0) (xa_cons (xe_tup (xa_cons (xe_var 4) (xa_cons xe_non xa_nil))) xa_nil))))))))
theorem sc_law_right : FnScope ["_law_found", "_law_due", "_law_one"] ["_law_found", "_law_due"] (defScope (topS 16)) := ⟨rfl, rfl, rfl, by decide +kernel, rfl, by decide +kernel, by decide +kernel⟩
theorem ok_law_right (T : Tp K mg) : FnOk P w K mg base CX0 (1) T.f_law_right T.d_law_right ["_law_found", "_law_due"] (spM K w 2 (G_law_right)) :=
    T.F_law_right.mem (B := (B_law_right)) sc_law_right fun cdv A outer s H E hr => by
        have hu := hr.units
        have hv := hr.units65
        have hx := hr.units80
        exact (xss_cons (xs_if (xt_w (xw_or (xt_not (xt_val (xe_isi (n := "list") (xe_var 0) T.z_isinstance T.z_list (by decide +kernel)))) (xw_or1 (xt_cmp (or_neA hu) os_ne (xe_var 0) (xe_var 1) (nomark _))))) (xss_one (xs_ret xe_bl)) xss_nil)
        (xss_cons (xs_for PassesOwn.never rfl (xi_any (xe_var 0)) (xg_name (i := 2) sc_law_right.nd) (xss_one (xs_if (xt_w (xw_or (xt_not (xt_val (xe_isi (n := "tuple") (xe_var 2) T.z_isinstance T.z_tuple (by decide +kernel)))) (xw_or1 (xt_val (xe_isi (n := "bool") (xe_ix (ix_any hu) os_ixA (xe_var 2) xe_int) T.z_isinstance T.z_bool (by decide +kernel)))))) (xss_one (xs_ret xe_bl)) xss_nil)))
        (xss_one (xs_ret xe_bl))))
theorem sc_NameLook_first : FnScope ["self", "table", "name", "mask", "many", "parts", "taken", "others"] ["self", "table", "name", "mask", "many"] (defScope (inClass (topS 3) 3)) := ⟨rfl, rfl, rfl, by decide +kernel, rfl, by decide +kernel, by decide +kernel⟩
theorem ok_NameLook_first (T : Tp K mg) : FnOk P w K mg base CX0 (2) T.f_NameLook_first T.d_NameLook_first ["self", "table", "name", "mask", "many"] (spM K w 5 (G_NameLook_first T.Cl)) :=
    T.F_NameLook_first.mem (B := (B_NameLook_first T.Cl)) sc_NameLook_first fun cdv A outer s H E hr => by
        have hu := hr.units
        have hv := hr.units65
        have hx := hr.units80
        exact (xss_cons (xs_set (i := 5) sc_NameLook_first.nd (xe_md PySem.F.slot_dict_setdefault PySem.F.type_dict_setdefault (mt_sd hu) ms_sd (xe_var 1) (xa_cons (xe_var 2) (xa_cons (xe_lstP xa_nil) xa_nil))))
        (xss_cons (xs_for PassesOwn.never rfl (xi_any (xe_var 5)) (xg_tup rfl (xgs_cons (xg_name (i := 6) sc_NameLook_first.nd) (xgs_cons (xg_name (i := 7) sc_NameLook_first.nd) xgs_nil))) (xss_one (xs_set (i := 3) sc_NameLook_first.nd (xe_call (ok_mask_without T) (hr.mono (by omega)) T.m_mask_without T.F_mask_without.kp T.b_mask_without pass0 (xa_cons (xe_var 3) (xa_cons (xe_var 6) xa_nil))))))
        (xss_one (xs_if (xt_cmp (or_neA hu) os_ne (xe_var 3) xe_int (nomark _)) (xss_one (xs_expr (xe_bm PySem.F.plainAttrs_list PySem.F.slot_list_append PySem.F.type_list_append mt_append ms_append (xe_var 5) (xa_cons (xe_tup (xa_cons (xe_var 3) (xa_cons (xe_var 4) xa_nil))) xa_nil)))) xss_nil))))
theorem sc_NameLook_is_kind : FnScope ["self", "mask", "at", "kind", "here", "many"] ["self", "mask", "at", "kind"] (defScope (inClass (topS 3) 4)) := ⟨rfl, rfl, rfl, by decide +kernel, rfl, by decide +kernel, by decide +kernel⟩
theorem ok_NameLook_is_kind (T : Tp K mg) : FnOk P w K mg base CX0 (2) T.f_NameLook_is_kind T.d_NameLook_is_kind ["self", "mask", "at", "kind"] (spM K w 4 (G_NameLook_is_kind T.Cl)) :=
    T.F_NameLook_is_kind.mem (B := (B_NameLook_is_kind T.Cl)) sc_NameLook_is_kind fun cdv A outer s H E hr => by
        have hu := hr.units
        have hv := hr.units65
        have hx := hr.units80
        exact (xss_one (xs_if (xt_w (xw_and (xt_cmp (or_neA hu) os_ne (xe_var 3) xe_str (nomark _)) (xw_and1 (xt_cmp (or_neA hu) os_ne (xe_var 3) xe_str (nomark _))))) (xss_cons (xs_for PassesOwn.never rfl (xi_any (xe_md PySem.F.slot_dict_get PySem.F.type_dict_get (mt_get hu) ms_get (xe_fld T.fl_records (xe_var 0)) (xa_cons (xe_var 3) (xa_cons (xe_lstF xa_nil) xa_nil)))) (xg_tup rfl (xgs_cons (xg_name (i := 4) sc_NameLook_is_kind.nd) (xgs_cons (xg_name (i := 5) sc_NameLook_is_kind.nd) xgs_nil))) (xss_one (xs_set (i := 1) sc_NameLook_is_kind.nd (xe_call (ok_mask_without T) (hr.mono (by omega)) T.m_mask_without T.F_mask_without.kp T.b_mask_without pass0 (xa_cons (xe_var 1) (xa_cons (xe_var 4) xa_nil))))))
        (xss_one (xs_expr (xe_meth T.c_NameLook T.t_NameLook_note (ok_NameLook_note T) (hr.mono (by omega)) T.b_NameLook_note pass0 (xe_var 0) (xa_cons (xe_var 1) (xa_cons (xe_var 2) (xa_cons xe_str (xa_cons (xe_var 3) xa_nil)))))))) xss_nil))
theorem sc_NameLook_uses : FnScope ["self", "table", "what", "expr", "mask", "at", "here", "many"] ["self", "table", "what", "expr", "mask", "at"] (defScope (inClass (topS 3) 9)) := ⟨rfl, rfl, rfl, by decide +kernel, rfl, by decide +kernel, by decide +kernel⟩
theorem ok_NameLook_uses (T : Tp K mg) : FnOk P w K mg base CX0 (2) T.f_NameLook_uses T.d_NameLook_uses ["self", "table", "what", "expr", "mask", "at"] (spM K w 6 (G_NameLook_uses T.Cl)) :=
    T.F_NameLook_uses.mem (B := (B_NameLook_uses T.Cl)) sc_NameLook_uses fun cdv A outer s H E hr => by
        have hu := hr.units
        have hv := hr.units65
        have hx := hr.units80
        exact (xss_cons (xs_for PassesOwn.never rfl (xi_any (xe_md PySem.F.slot_dict_get PySem.F.type_dict_get (mt_get hu) ms_get (xe_var 1) (xa_cons (xe_ix (ix_any hu) os_ixA (xe_var 3) xe_int) (xa_cons (xe_lstF xa_nil) xa_nil)))) (xg_tup rfl (xgs_cons (xg_name (i := 6) sc_NameLook_uses.nd) (xgs_cons (xg_name (i := 7) sc_NameLook_uses.nd) xgs_nil))) (xss_cons (xs_if (xt_cmp (or_neA hu) os_ne (xe_var 7) (xe_callB cr_lenA cs_len T.z_len PySem.boot_len (xa_cons (xe_ix (ix_any hu) os_ixA (xe_var 3) xe_int) xa_nil)) (nomark _)) (xss_one (xs_expr (xe_meth T.c_NameLook T.t_NameLook_note (ok_NameLook_note T) (hr.mono (by omega)) T.b_NameLook_note pass0 (xe_var 0) (xa_cons (xe_bin op_and os_and (xe_var 4) (xe_var 6)) (xa_cons (xe_var 5) (xa_cons xe_str (xa_cons (xe_ix (ix_any hu) os_ixA (xe_var 3) xe_int) xa_nil))))))) xss_nil)
        (xss_one (xs_set (i := 4) sc_NameLook_uses.nd (xe_call (ok_mask_without T) (hr.mono (by omega)) T.m_mask_without T.F_mask_without.kp T.b_mask_without pass0 (xa_cons (xe_var 4) (xa_cons (xe_var 6) xa_nil)))))))
        (xss_one (xs_expr (xe_meth T.c_NameLook T.t_NameLook_note (ok_NameLook_note T) (hr.mono (by omega)) T.b_NameLook_note pass0 (xe_var 0) (xa_cons (xe_var 4) (xa_cons (xe_var 5) (xa_cons (xe_var 2) (xa_cons (xe_ix (ix_any hu) os_ixA (xe_var 3) xe_int) xa_nil))))))))
theorem sc_law_names : FnScope ["_law_number", "_law_word_here", "_law_at", "_law_sign"] ["_law_number"] (defScope (topS 10)) := ⟨rfl, rfl, rfl, by decide +kernel, rfl, by decide +kernel, by decide +kernel⟩
theorem ok_law_names (T : Tp K mg) : FnOk P w K mg base CX0 (2) T.f_law_names T.d_law_names ["_law_number"] (spP K w 1 (G_law_names)) :=
    T.F_law_names.pure sc_law_names fun cdv A outer s H E hr => ⟨(B_law_names), by
        have hu := hr.units
        have hv := hr.units65
        have hx := hr.units80
        exact (xss_cons (xs_set (i := 1) sc_law_names.nd (xe_bin or_addB (os_addB false) xe_str (xe_slA (xe_call (ok_law_word T) (hr.mono (by omega)) T.m_law_word T.F_law_word.kp T.b_law_word pass0 (xa_cons (xe_var 0) xa_nil)) xo_none (xo_some xe_int))))
        (xss_cons (xs_set (i := 2) sc_law_names.nd (xe_bin or_addB (os_addB false) xe_int (xe_bin op_mod os_mod (xe_bin op_fdiv os_div (xe_var 0) xe_int) (xe_bin op_sub os_sub (xe_callB cr_lenA cs_len T.z_len PySem.boot_len (xa_cons (xe_var 1) xa_nil)) xe_int))))
        (xss_cons (xs_if (xt_cmp (or_eqA hu) os_eq (xe_bin op_mod os_mod (xe_bin op_fdiv os_div (xe_var 0) xe_int) xe_int) xe_int (nomark _)) (xss_cons (xs_set (i := 1) sc_law_names.nd (xe_slA (xe_var 1) xo_none (xo_some xe_int)))
        (xss_one (xs_ret (xe_lstF (xa_cons (xe_var 1) (xa_cons (xe_bin or_addB (os_addB false) (xe_var 1) xe_str) (xa_cons (xe_bin or_addB (os_addB false) (xe_var 1) xe_str) (xa_cons (xe_bin or_addB (os_addB false) (xe_var 1) xe_str) xa_nil)))))))) xss_nil)
        (xss_one (xs_ret (xe_lcF rfl sc_law_names.nd (xi_str xe_str) (blkOk_by (own := [("_law_sign", 3)]) (by show blkC ["_law_number", "_law_word_here", "_law_at", "_law_sign"] (defScope (topS 10)) _ _ = true; decide +kernel)) (fun _ _ _ _ _ => (xg_name (i := 3) sc_law_names.nd)) (fun _ _ _ _ _ => xts_nil) (fun _ _ _ _ _ => (xe_bin or_addB (os_addB false) (xe_bin or_addB (os_addB false) (xe_slA (xe_var 1) xo_none (xo_some (xe_var 2))) (xe_var 3)) (xe_slA (xe_var 1) (xo_some (xe_bin or_addB (os_addB false) (xe_var 2) xe_int)) xo_none))))))))), fun ds _ _ => Pr.le_of rfl⟩
theorem sc_law_expr : FnScope ["_law_number", "_law_names_here", "_law_deep", "_law_form", "_law_more", "_law_word_here", "_law_left"] ["_law_number", "_law_names_here", "_law_deep"] (defScope (topS 11)) := ⟨rfl, rfl, rfl, by decide +kernel, rfl, by decide +kernel, by decide +kernel⟩
theorem okc_law_expr (T : Tp K mg) : ∀ n : Nat, FnOk P w K mg base CX0 (n + 2) T.f_law_expr T.d_law_expr ["_law_number", "_law_names_here", "_law_deep"] (spP K w 3 (G_law_expr n))
  | 0 => T.F_law_expr.pure0 (k := 1) sc_law_expr
  | n + 1 => by
    have h_law_expr := okc_law_expr T n
    exact T.F_law_expr.pure (k := n + 2) sc_law_expr fun cdv A outer s H E hr => ⟨(B_law_expr (G_law_expr n)), by
        have hu := hr.units
        have hv := hr.units65
        have hx := hr.units80
        exact (xss_cons (xs_set (i := 3) sc_law_expr.nd (xe_bin op_mod os_mod (xe_var 0) xe_int))
        (xss_cons (xs_set (i := 4) sc_law_expr.nd (xe_bin op_fdiv os_div (xe_var 0) xe_int))
        (xss_cons (xs_if (xt_w (xw_or (xt_cmp (or_eqA hu) os_eq (xe_var 2) xe_int (nomark _)) (xw_or1 (xt_cmp op_lt os_lt (xe_var 3) xe_int (nomark _))))) (xss_cons (xs_if (xt_cmp (or_eqA hu) os_eq (xe_bin op_mod os_mod (xe_var 3) xe_int) xe_int (nomark _)) (xss_one (xs_ret (xe_tup (xa_cons xe_str (xa_cons (xe_bin op_mod os_mod (xe_var 4) (xe_bin op_pow os_pow xe_int xe_int)) xa_nil))))) xss_nil)
        (xss_cons (xs_if (xt_cmp (or_eqA hu) os_eq (xe_bin op_mod os_mod (xe_var 3) xe_int) xe_int (nomark _)) (xss_one (xs_ret (xe_tup (xa_cons xe_str (xa_cons (xe_ix (ix_any hu) os_ixA (xe_lstF (xa_cons xe_str (xa_cons xe_str xa_nil))) (xe_bin op_mod os_mod (xe_var 4) xe_int)) xa_nil))))) xss_nil)
        (xss_one (xs_ret (xe_tup (xa_cons xe_str (xa_cons (xe_ix (ix_any hu) os_ixA (xe_var 1) (xe_bin op_mod os_mod (xe_var 4) (xe_callB cr_lenA cs_len T.z_len PySem.boot_len (xa_cons (xe_var 1) xa_nil)))) xa_nil))))))) xss_nil)
        (xss_cons (xs_if (xt_cmp (or_eqA hu) os_eq (xe_var 3) xe_int (nomark _)) (xss_one (xs_ret (xe_tup (xa_cons xe_str (xa_cons (xe_call h_law_expr (hr.mono (by omega)) T.m_law_expr T.F_law_expr.kp T.b_law_expr pass0 (xa_cons (xe_call (ok_law_mixed T) (hr.mono (by omega)) T.m_law_mixed T.F_law_mixed.kp T.b_law_mixed pass0 (xa_cons (xe_var 0) (xa_cons xe_int xa_nil))) (xa_cons (xe_var 1) (xa_cons (xe_bin op_sub os_sub (xe_var 2) xe_int) xa_nil)))) xa_nil))))) xss_nil)
        (xss_cons (xs_set (i := 5) sc_law_expr.nd (xe_ix (ix_any hu) os_ixA (xe_lstF (xa_cons xe_str (xa_cons xe_str (xa_cons xe_str (xa_cons xe_str (xa_cons xe_str (xa_cons xe_str (xa_cons xe_str xa_nil)))))))) (xe_bin op_mod os_mod (xe_var 4) xe_int)))
        (xss_cons (xs_set (i := 6) sc_law_expr.nd (xe_call h_law_expr (hr.mono (by omega)) T.m_law_expr T.F_law_expr.kp T.b_law_expr pass0 (xa_cons (xe_call (ok_law_mixed T) (hr.mono (by omega)) T.m_law_mixed T.F_law_mixed.kp T.b_law_mixed pass0 (xa_cons (xe_var 0) (xa_cons xe_int xa_nil))) (xa_cons (xe_var 1) (xa_cons (xe_bin op_sub os_sub (xe_var 2) xe_int) xa_nil)))))
        (xss_one (xs_ret (xe_tup (xa_cons (xe_var 5) (xa_cons (xe_var 6) (xa_cons (xe_call h_law_expr (hr.mono (by omega)) T.m_law_expr T.F_law_expr.kp T.b_law_expr pass0 (xa_cons (xe_call (ok_law_mixed T) (hr.mono (by omega)) T.m_law_mixed T.F_law_mixed.kp T.b_law_mixed pass0 (xa_cons (xe_var 0) (xa_cons xe_int xa_nil))) (xa_cons (xe_var 1) (xa_cons (xe_bin op_sub os_sub (xe_var 2) xe_int) xa_nil)))) xa_nil)))))))))))), fun ds _ _ => Pr.le_of rfl⟩
theorem ok_law_expr (T : Tp K mg) (n : Nat) : FnOk P w K mg base CX0 (n + 2) T.f_law_expr T.d_law_expr ["_law_number", "_law_names_here", "_law_deep"] (spP K w 3 (G_law_expr n)) := okc_law_expr T n
theorem sc_NameLook_gather : FnScope ["self", "mask", "statement", "named", "at", "name", "known"] ["self", "mask", "statement", "named"] (defScope (inClass (topS 3) 2)) := ⟨rfl, rfl, rfl, by decide +kernel, rfl, by decide +kernel, by decide +kernel⟩
theorem ok_NameLook_gather (T : Tp K mg) : FnOk P w K mg base CX0 (3) T.f_NameLook_gather T.d_NameLook_gather ["self", "mask", "statement", "named"] (spM K w 4 (G_NameLook_gather T.Cl)) :=
    T.F_NameLook_gather.mem (B := (B_NameLook_gather T.Cl)) sc_NameLook_gather fun cdv A outer s H E hr => by
        have hu := hr.units
        have hv := hr.units65
        have hx := hr.units80
        exact (xss_cons (xs_set (i := 4) sc_NameLook_gather.nd (xe_ix (ix_any hu) os_ixA (xe_var 2) xe_int))
        (xss_cons (xs_set (i := 5) sc_NameLook_gather.nd (xe_ix (ix_any hu) os_ixA (xe_var 2) xe_int))
        (xss_cons (xs_set (i := 6) sc_NameLook_gather.nd (xe_md PySem.F.slot_dict_get PySem.F.type_dict_get (mt_get hu) ms_get (xe_var 3) (xa_cons (xe_var 5) (xa_cons xe_int xa_nil))))
        (xss_cons (xs_expr (xe_meth T.c_NameLook T.t_NameLook_note (ok_NameLook_note T) (hr.mono (by omega)) T.b_NameLook_note pass0 (xe_var 0) (xa_cons (xe_bin op_and os_and (xe_var 1) (xe_var 6)) (xa_cons (xe_var 4) (xa_cons xe_str (xa_cons (xe_var 5) xa_nil))))))
        (xss_cons (xs_setA hu (xe_var 3) (xe_var 5) (xe_bin op_or os_or (xe_var 6) (xe_var 1)))
        (xss_one (xs_if (xt_cmp (or_eqA hu) os_eq (xe_ix (ix_any hu) os_ixA (xe_var 2) xe_int) xe_str (nomark _)) (xss_one (xs_expr (xe_meth T.c_NameLook T.t_NameLook_first (ok_NameLook_first T) (hr.mono (by omega)) T.b_NameLook_first pass0 (xe_var 0) (xa_cons (xe_fld T.fl_defs (xe_var 0)) (xa_cons (xe_var 5) (xa_cons (xe_var 1) (xa_cons (xe_callB cr_lenA cs_len T.z_len PySem.boot_len (xa_cons (xe_ix (ix_any hu) os_ixA (xe_var 2) xe_int) xa_nil)) xa_nil))))))) (xss_one (xs_expr (xe_meth T.c_NameLook T.t_NameLook_first (ok_NameLook_first T) (hr.mono (by omega)) T.b_NameLook_first pass0 (xe_var 0) (xa_cons (xe_fld T.fl_records (xe_var 0)) (xa_cons (xe_var 5) (xa_cons (xe_var 1) (xa_cons (xe_callB cr_lenA cs_len T.z_len PySem.boot_len (xa_cons (xe_ix (ix_any hu) os_ixA (xe_var 2) xe_int) xa_nil)) xa_nil))))))))))))))
theorem sc_NameLook_reads : FnScope ["self", "expr", "mask", "at", "known", "word", "part"] ["self", "expr", "mask", "at", "known"] (defScope (inClass (topS 3) 8)) := ⟨rfl, rfl, rfl, by decide +kernel, rfl, by decide +kernel, by decide +kernel⟩
theorem okc_NameLook_reads (T : Tp K mg) : ∀ n : Nat, FnOk P w K mg base CX0 (n + 3) T.f_NameLook_reads T.d_NameLook_reads ["self", "expr", "mask", "at", "known"] (spM K w 5 (G_NameLook_reads T.Cl n))
  | 0 => T.F_NameLook_reads.mem0 (k := 2) sc_NameLook_reads
  | n + 1 => by
    have h_NameLook_reads := okc_NameLook_reads T n
    exact T.F_NameLook_reads.mem (k := n + 3) (B := (B_NameLook_reads T.Cl (G_NameLook_reads T.Cl n))) sc_NameLook_reads fun cdv A outer s H E hr => by
        have hu := hr.units
        have hv := hr.units65
        have hx := hr.units80
        exact (xss_cons (xs_set (i := 5) sc_NameLook_reads.nd (xe_ix (ix_any hu) os_ixA (xe_var 1) xe_int))
        (xss_cons (xs_if (xt_w (xw_or (xt_cmp (or_eqA hu) os_eq (xe_var 5) xe_str (nomark _)) (xw_or1 (xt_cmp (or_eqA hu) os_eq (xe_var 5) xe_str (nomark _))))) (xss_one xs_retN) xss_nil)
        (xss_one (xs_if (xt_cmp (or_eqA hu) os_eq (xe_var 5) xe_str (nomark _)) (xss_one (xs_expr (xe_meth T.c_NameLook T.t_NameLook_note (ok_NameLook_note T) (hr.mono (by omega)) T.b_NameLook_note pass0 (xe_var 0) (xa_cons (xe_call (ok_mask_without T) (hr.mono (by omega)) T.m_mask_without T.F_mask_without.kp T.b_mask_without pass0 (xa_cons (xe_var 2) (xa_cons (xe_md PySem.F.slot_dict_get PySem.F.type_dict_get (mt_get hu) ms_get (xe_var 4) (xa_cons (xe_ix (ix_any hu) os_ixA (xe_var 1) xe_int) (xa_cons xe_int xa_nil))) xa_nil))) (xa_cons (xe_var 3) (xa_cons xe_str (xa_cons (xe_ix (ix_any hu) os_ixA (xe_var 1) xe_int) xa_nil))))))) (xss_one (xs_if (xt_cmp (or_eqA hu) os_eq (xe_var 5) xe_str (nomark _)) (xss_cons (xs_expr (xe_meth T.c_NameLook T.t_NameLook_uses (ok_NameLook_uses T) (hr.mono (by omega)) T.b_NameLook_uses pass0 (xe_var 0) (xa_cons (xe_fld T.fl_defs (xe_var 0)) (xa_cons xe_str (xa_cons (xe_var 1) (xa_cons (xe_var 2) (xa_cons (xe_var 3) xa_nil)))))))
        (xss_one (xs_for PassesOwn.never rfl (xi_any (xe_ix (ix_any hu) os_ixA (xe_var 1) xe_int)) (xg_name (i := 6) sc_NameLook_reads.nd) (xss_one (xs_expr (xe_meth T.c_NameLook T.t_NameLook_reads h_NameLook_reads (hr.mono (by omega)) T.b_NameLook_reads pass0 (xe_var 0) (xa_cons (xe_var 6) (xa_cons (xe_var 2) (xa_cons (xe_var 3) (xa_cons (xe_var 4) xa_nil)))))))))) (xss_one (xs_if (xt_cmp (or_eqA hu) os_eq (xe_var 5) xe_str (nomark _)) (xss_cons (xs_expr (xe_meth T.c_NameLook T.t_NameLook_uses (ok_NameLook_uses T) (hr.mono (by omega)) T.b_NameLook_uses pass0 (xe_var 0) (xa_cons (xe_fld T.fl_records (xe_var 0)) (xa_cons xe_str (xa_cons (xe_var 1) (xa_cons (xe_var 2) (xa_cons (xe_var 3) xa_nil)))))))
        (xss_one (xs_for PassesOwn.never rfl (xi_any (xe_ix (ix_any hu) os_ixA (xe_var 1) xe_int)) (xg_name (i := 6) sc_NameLook_reads.nd) (xss_one (xs_expr (xe_meth T.c_NameLook T.t_NameLook_reads h_NameLook_reads (hr.mono (by omega)) T.b_NameLook_reads pass0 (xe_var 0) (xa_cons (xe_var 6) (xa_cons (xe_var 2) (xa_cons (xe_var 3) (xa_cons (xe_var 4) xa_nil)))))))))) (xss_one (xs_if (xt_cmp (or_eqA hu) os_eq (xe_var 5) xe_str (nomark _)) (xss_one (xs_expr (xe_meth T.c_NameLook T.t_NameLook_reads h_NameLook_reads (hr.mono (by omega)) T.b_NameLook_reads pass0 (xe_var 0) (xa_cons (xe_ix (ix_any hu) os_ixA (xe_var 1) xe_int) (xa_cons (xe_var 2) (xa_cons (xe_var 3) (xa_cons (xe_var 4) xa_nil))))))) (xss_one (xs_for PassesOwn.never rfl (xi_any (xe_slA (xe_var 1) (xo_some xe_int) xo_none)) (xg_name (i := 6) sc_NameLook_reads.nd) (xss_one (xs_expr (xe_meth T.c_NameLook T.t_NameLook_reads h_NameLook_reads (hr.mono (by omega)) T.b_NameLook_reads pass0 (xe_var 0) (xa_cons (xe_var 6) (xa_cons (xe_var 2) (xa_cons (xe_var 3) (xa_cons (xe_var 4) xa_nil)))))))))))))))))))
theorem ok_NameLook_reads (T : Tp K mg) (n : Nat) : FnOk P w K mg base CX0 (n + 3) T.f_NameLook_reads T.d_NameLook_reads ["self", "expr", "mask", "at", "known"] (spM K w 5 (G_NameLook_reads T.Cl n)) := okc_NameLook_reads T n
theorem sc_NameLook_init : FnScope ["self", "tree", "mask", "named", "here", "statement"] ["self", "tree", "mask"] (defScope (inClass (topS 3) 0)) := ⟨rfl, rfl, rfl, by decide +kernel, rfl, by decide +kernel, by decide +kernel⟩
theorem ok_NameLook_init (T : Tp K mg) : FnOk P w K mg base CX0 (4) T.f_NameLook_init T.d_NameLook_init ["self", "tree", "mask"] (spM K w 3 (G_NameLook_init T.Cl)) :=
    T.F_NameLook_init.mem (B := (B_NameLook_init T.Cl)) sc_NameLook_init fun cdv A outer s H E hr => by
        have hu := hr.units
        have hv := hr.units65
        have hx := hr.units80
        exact (xss_cons (xs_fld T.fl_faults (xe_var 0) xe_dct)
        (xss_cons (xs_fld T.fl_defs (xe_var 0) xe_dct)
        (xss_cons (xs_fld T.fl_records (xe_var 0) xe_dct)
        (xss_cons (xs_set (i := 3) sc_NameLook_init.nd xe_dct)
        (xss_one (xs_for PassesOwn.never rfl (xi_any (xe_var 1)) (xg_tup rfl (xgs_cons (xg_name (i := 4) sc_NameLook_init.nd) (xgs_cons (xg_name (i := 5) sc_NameLook_init.nd) xgs_nil))) (xss_one (xs_if (xt_w (xw_or (xt_cmp (or_eqA hu) os_eq (xe_ix (ix_any hu) os_ixA (xe_var 5) xe_int) xe_str (nomark _)) (xw_or1 (xt_cmp (or_eqA hu) os_eq (xe_ix (ix_any hu) os_ixA (xe_var 5) xe_int) xe_str (nomark _))))) (xss_one (xs_expr (xe_meth T.c_NameLook T.t_NameLook_gather (ok_NameLook_gather T) (hr.mono (by omega)) T.b_NameLook_gather pass0 (xe_var 0) (xa_cons (xe_bin op_and os_and (xe_var 4) (xe_var 2)) (xa_cons (xe_var 5) (xa_cons (xe_var 3) xa_nil)))))) xss_nil))))))))
theorem sc_law_row : FnScope ["_law_stack", "_law_number", "_law_at", "_law_names_here", "_law_form", "_law_e", "_law_name", "_law_block", "_law_other"] ["_law_stack", "_law_number", "_law_at", "_law_names_here"] (defScope (topS 14)) := ⟨rfl, rfl, rfl, by decide +kernel, rfl, by decide +kernel, by decide +kernel⟩
theorem ok_law_row (T : Tp K mg) : FnOk P w K mg base CX0 (8) T.f_law_row T.d_law_row ["_law_stack", "_law_number", "_law_at", "_law_names_here"] (spM K w 4 (G_law_row)) :=
    T.F_law_row.mem (B := (B_law_row)) sc_law_row fun cdv A outer s H E hr => by
        have hu := hr.units
        have hv := hr.units65
        have hx := hr.units80
        exact (xss_cons (xs_set (i := 4) sc_law_row.nd (xe_bin op_mod os_mod (xe_var 1) xe_int))
        (xss_cons (xs_set (i := 5) sc_law_row.nd (xe_call (ok_law_expr T 5) (hr.mono (by omega)) T.m_law_expr T.F_law_expr.kp T.b_law_expr pass0 (xa_cons (xe_call (ok_law_mixed T) (hr.mono (by omega)) T.m_law_mixed T.F_law_mixed.kp T.b_law_mixed pass0 (xa_cons (xe_var 1) (xa_cons xe_int xa_nil))) (xa_cons (xe_var 3) (xa_cons (xe_bin op_mod os_mod (xe_bin op_fdiv os_div (xe_var 1) xe_int) xe_int) xa_nil)))))
        (xss_cons (xs_if (xt_cmp op_lt os_lt (xe_var 4) xe_int (nomark _)) (xss_cons (xs_set (i := 6) sc_law_row.nd (xe_ix (ix_any hu) os_ixA (xe_var 3) (xe_bin op_mod os_mod (xe_bin op_fdiv os_div (xe_var 1) xe_int) (xe_callB cr_lenA cs_len T.z_len PySem.boot_len (xa_cons (xe_var 3) xa_nil)))))
        (xss_cons (xs_expr (xe_bm PySem.F.plainAttrs_list PySem.F.slot_list_append PySem.F.type_list_append mt_append ms_append (xe_ix (ix_any hu) os_ixA (xe_ix (ix_any hu) os_ixA (xe_var 0) (xe_un un_neg us_neg xe_int)) xe_int) (xa_cons (xe_tup (xa_cons xe_str (xa_cons (xe_var 2) (xa_cons (xe_var 6) (xa_cons (xe_var 5) xa_nil))))) xa_nil)))
        (xss_one (xs_ret (xe_tup (xa_cons (xe_var 5) (xa_cons (xe_var 6) xa_nil))))))) xss_nil)
        (xss_cons (xs_if (xt_cmp op_lt os_lt (xe_var 4) xe_int (nomark _)) (xss_cons (xs_expr (xe_bm PySem.F.plainAttrs_list PySem.F.slot_list_append PySem.F.type_list_append mt_append ms_append (xe_ix (ix_any hu) os_ixA (xe_ix (ix_any hu) os_ixA (xe_var 0) (xe_un un_neg us_neg xe_int)) xe_int) (xa_cons (xe_tup (xa_cons xe_str (xa_cons (xe_var 2) (xa_cons (xe_var 5) xa_nil)))) xa_nil)))
        (xss_one (xs_ret (xe_tup (xa_cons (xe_var 5) (xa_cons xe_non xa_nil)))))) xss_nil)
        (xss_cons (xs_if (xt_w (xw_and (xt_cmp op_lt os_lt (xe_var 4) xe_int (nomark _)) (xw_and1 (xt_cmp op_lt os_lt (xe_callB cr_lenA cs_len T.z_len PySem.boot_len (xa_cons (xe_var 0) xa_nil)) xe_int (nomark _))))) (xss_cons (xs_expr (xe_callM (ok_law_opened T) (hr.mono (by omega)) T.m_law_opened T.F_law_opened.kp T.b_law_opened pass0 (xa_cons (xe_var 0) (xa_cons (xe_var 4) (xa_cons (xe_var 2) (xa_cons (xe_var 5) xa_nil))))))
        (xss_one (xs_ret (xe_tup (xa_cons (xe_var 5) (xa_cons xe_non xa_nil)))))) xss_nil)
        (xss_cons (xs_if (xt_w (xw_and (xt_cmp (or_eqA hu) os_eq (xe_var 4) xe_int (nomark _)) (xw_and1 (xt_cmp op_notN os_notN (xe_ix (ix_any hu) os_ixA (xe_ix (ix_any hu) os_ixA (xe_var 0) (xe_un un_neg us_neg xe_int)) xe_int) xe_non (nomark _))))) (xss_cons (xs_asg (xe_bm0 PySem.F.plainAttrs_list PySem.F.slot_list_pop PySem.F.type_list_pop mt_pop ms_pop (xe_var 0)) (xg_tup rfl (xgs_cons (xg_name (i := 7) sc_law_row.nd) (xgs_cons (xg_name (i := 8) sc_law_row.nd) xgs_nil))))
        (xss_one (xs_expr (xe_bm PySem.F.plainAttrs_list PySem.F.slot_list_append PySem.F.type_list_append mt_append ms_append (xe_var 0) (xa_cons (xe_tup (xa_cons (xe_var 8) (xa_cons xe_non xa_nil))) xa_nil))))) (xss_one (xs_if (xt_w (xw_and (xt_cmp (or_eqA hu) os_eq (xe_var 4) xe_int (nomark _)) (xw_and1 (xt_cmp op_gt os_gt (xe_callB cr_lenA cs_len T.z_len PySem.boot_len (xa_cons (xe_var 0) xa_nil)) xe_int (nomark _))))) (xss_one (xs_expr (xe_bm0 PySem.F.plainAttrs_list PySem.F.slot_list_pop PySem.F.type_list_pop mt_pop ms_pop (xe_var 0)))) xss_nil)))
        (xss_one (xs_ret (xe_tup (xa_cons xe_non (xa_cons xe_non xa_nil)))))))))))
theorem sc_law_built : FnScope ["_law_script", "_law_names_here", "_law_top", "_law_stack", "_law_due", "_law_known", "_law_at", "_law_cell", "_law_e", "_law_name", "_law_read"] ["_law_script"] (defScope (topS 15)) := ⟨rfl, rfl, rfl, by decide +kernel, rfl, by decide +kernel, by decide +kernel⟩
theorem ok_law_built (T : Tp K mg) : FnOk P w K mg base CX0 (9) T.f_law_built T.d_law_built ["_law_script"] (spP K w 1 (G_law_built)) :=
    T.F_law_built.pure sc_law_built fun cdv A outer s H E hr => ⟨(B_law_built), by
        have hu := hr.units
        have hv := hr.units65
        have hx := hr.units80
        exact (xss_cons (xs_set (i := 1) sc_law_built.nd (xe_call (ok_law_names T) (hr.mono (by omega)) T.m_law_names T.F_law_names.kp T.b_law_names pass0 (xa_cons (xe_call (ok_law_mixed T) (hr.mono (by omega)) T.m_law_mixed T.F_law_mixed.kp T.b_law_mixed pass0 (xa_cons (xe_call (ok_law_cell_at T) (hr.mono (by omega)) T.m_law_cell_at T.F_law_cell_at.kp T.b_law_cell_at pass0 (xa_cons (xe_var 0) (xa_cons xe_int xa_nil))) (xa_cons xe_int xa_nil))) xa_nil)))
        (xss_cons (xs_set (i := 2) sc_law_built.nd (xe_lstP xa_nil))
        (xss_cons (xs_set (i := 3) sc_law_built.nd (xe_lstP (xa_cons (xe_tup (xa_cons (xe_var 2) (xa_cons xe_non xa_nil))) xa_nil)))
        (xss_cons (xs_set (i := 4) sc_law_built.nd (xe_lstP xa_nil))
        (xss_cons (xs_set (i := 5) sc_law_built.nd (xe_lstP xa_nil))
        (xss_cons (xs_for PassesOwn.never rfl (xi_enum (xe_slA (xe_var 0) (xo_some xe_int) (xo_some xe_int)) T.z_enumerate) (xg_tup rfl (xgs_cons (xg_name (i := 6) sc_law_built.nd) (xgs_cons (xg_name (i := 7) sc_law_built.nd) xgs_nil))) (xss_cons (xs_asg (xe_callM (ok_law_row T) (hr.mono (by omega)) T.m_law_row T.F_law_row.kp T.b_law_row pass0 (xa_cons (xe_var 3) (xa_cons (xe_call (ok_law_mixed T) (hr.mono (by omega)) T.m_law_mixed T.F_law_mixed.kp T.b_law_mixed pass0 (xa_cons (xe_var 7) (xa_cons (xe_var 6) xa_nil))) (xa_cons (xe_var 6) (xa_cons (xe_var 1) xa_nil))))) (xg_tup rfl (xgs_cons (xg_name (i := 8) sc_law_built.nd) (xgs_cons (xg_name (i := 9) sc_law_built.nd) xgs_nil))))
        (xss_cons (xs_if (xt_cmp op_notN os_notN (xe_var 8) xe_non (nomark _)) (xss_one (xs_for PassesOwn.never rfl (xi_any (xe_call (ok_law_reads T 5) (hr.mono (by omega)) T.m_law_reads T.F_law_reads.kp T.b_law_reads pass0 (xa_cons (xe_var 8) xa_nil))) (xg_name (i := 10) sc_law_built.nd) (xss_one (xs_if (xt_w (xw_and (xt_cmp (op_ninA hv) os_nin (xe_var 10) (xe_var 5) rfl) (xw_and1 (xt_cmp (op_ninA hv) os_nin (xe_tup (xa_cons (xe_var 6) (xa_cons xe_str (xa_cons (xe_var 10) xa_nil)))) (xe_var 4) rfl)))) (xss_one (xs_expr (xe_bm PySem.F.plainAttrs_list PySem.F.slot_list_append PySem.F.type_list_append mt_append ms_append (xe_var 4) (xa_cons (xe_tup (xa_cons (xe_var 6) (xa_cons xe_str (xa_cons (xe_var 10) xa_nil)))) xa_nil)))) xss_nil)))) xss_nil)
        (xss_one (xs_if (xt_cmp op_notN os_notN (xe_var 9) xe_non (nomark _)) (xss_one (xs_expr (xe_bm PySem.F.plainAttrs_list PySem.F.slot_list_append PySem.F.type_list_append mt_append ms_append (xe_var 5) (xa_cons (xe_var 9) xa_nil)))) xss_nil)))))
        (xss_one (xs_ret (xe_tup (xa_cons (xe_var 2) (xa_cons (xe_callB (cr_sort hx rfl) (cs_sort false) T.z_sorted (by decide +kernel) (xa_cons (xe_var 4) xa_nil)) xa_nil))))))))))), fun ds _ _ => Pr.le_of rfl⟩
theorem sc_NameLook_walk : FnScope ["self", "block", "mask", "known", "here", "statement"] ["self", "block", "mask", "known"] (defScope (inClass (topS 3) 5)) := ⟨rfl, rfl, rfl, by decide +kernel, rfl, by decide +kernel, by decide +kernel⟩
theorem sc_NameLook_step : FnScope ["self", "statement", "mask", "known", "word", "at", "block"] ["self", "statement", "mask", "known"] (defScope (inClass (topS 3) 6)) := ⟨rfl, rfl, rfl, by decide +kernel, rfl, by decide +kernel, by decide +kernel⟩
theorem sc_NameLook_define : FnScope ["self", "statement", "mask", "word", "at", "name", "kind", "params", "body", "known", "param", "its"] ["self", "statement", "mask"] (defScope (inClass (topS 3) 7)) := ⟨rfl, rfl, rfl, by decide +kernel, rfl, by decide +kernel, by decide +kernel⟩
theorem okc_NameLook_walk (T : Tp K mg) : ∀ n : Nat, FnOk P w K mg base CX0 (n + 10) T.f_NameLook_walk T.d_NameLook_walk ["self", "block", "mask", "known"] (spM K w 4 (G_NameLook_walk T.Cl n)) ∧
    FnOk P w K mg base CX0 (n + 10) T.f_NameLook_step T.d_NameLook_step ["self", "statement", "mask", "known"] (spM K w 4 (G_NameLook_step T.Cl n)) ∧
    FnOk P w K mg base CX0 (n + 10) T.f_NameLook_define T.d_NameLook_define ["self", "statement", "mask"] (spM K w 3 (G_NameLook_define T.Cl n))
  | 0 => ⟨T.F_NameLook_walk.mem0 (k := 9) sc_NameLook_walk, T.F_NameLook_step.mem0 (k := 9) sc_NameLook_step, T.F_NameLook_define.mem0 (k := 9) sc_NameLook_define⟩
  | n + 1 => by
    obtain ⟨h_NameLook_walk, h_NameLook_step, h_NameLook_define⟩ := okc_NameLook_walk T n
    refine ⟨?_, ?_, ?_⟩
    · exact T.F_NameLook_walk.mem (k := n + 10) (B := (B_NameLook_walk T.Cl (G_NameLook_step T.Cl n))) sc_NameLook_walk fun cdv A outer s H E hr => by
        have hu := hr.units
        have hv := hr.units65
        have hx := hr.units80
        exact (xss_one (xs_for PassesOwn.never rfl (xi_any (xe_var 1)) (xg_tup rfl (xgs_cons (xg_name (i := 4) sc_NameLook_walk.nd) (xgs_cons (xg_name (i := 5) sc_NameLook_walk.nd) xgs_nil))) (xss_cons (xs_set (i := 4) sc_NameLook_walk.nd (xe_bin op_and os_and (xe_var 4) (xe_var 2)))
        (xss_one (xs_if (xt_cmp (or_neA hu) os_ne (xe_var 4) xe_int (nomark _)) (xss_one (xs_expr (xe_meth T.c_NameLook T.t_NameLook_step h_NameLook_step (hr.mono (by omega)) T.b_NameLook_step pass0 (xe_var 0) (xa_cons (xe_var 5) (xa_cons (xe_var 4) (xa_cons (xe_var 3) xa_nil)))))) xss_nil)))))
    · exact T.F_NameLook_step.mem (k := n + 10) (B := (B_NameLook_step T.Cl (G_NameLook_walk T.Cl n) (G_NameLook_define T.Cl n))) sc_NameLook_step fun cdv A outer s H E hr => by
        have hu := hr.units
        have hv := hr.units65
        have hx := hr.units80
        exact (xss_cons (xs_set (i := 4) sc_NameLook_step.nd (xe_ix (ix_any hu) os_ixA (xe_var 1) xe_int))
        (xss_cons (xs_set (i := 5) sc_NameLook_step.nd (xe_ix (ix_any hu) os_ixA (xe_var 1) xe_int))
        (xss_one (xs_if (xt_cmp (or_eqA hu) os_eq (xe_var 4) xe_str (nomark _)) (xss_one (xs_expr (xe_meth T.c_NameLook T.t_NameLook_define h_NameLook_define (hr.mono (by omega)) T.b_NameLook_define pass0 (xe_var 0) (xa_cons (xe_var 1) (xa_cons (xe_var 2) xa_nil))))) (xss_one (xs_if (xt_cmp (or_eqA hu) os_eq (xe_var 4) xe_str (nomark _)) (xss_cons (xs_expr (xe_meth T.c_NameLook T.t_NameLook_reads (ok_NameLook_reads T 6) (hr.mono (by omega)) T.b_NameLook_reads pass0 (xe_var 0) (xa_cons (xe_ix (ix_any hu) os_ixA (xe_var 1) xe_int) (xa_cons (xe_var 2) (xa_cons (xe_var 5) (xa_cons (xe_var 3) xa_nil))))))
        (xss_one (xs_setA hu (xe_var 3) (xe_ix (ix_any hu) os_ixA (xe_var 1) xe_int) (xe_bin op_or os_or (xe_md PySem.F.slot_dict_get PySem.F.type_dict_get (mt_get hu) ms_get (xe_var 3) (xa_cons (xe_ix (ix_any hu) os_ixA (xe_var 1) xe_int) (xa_cons xe_int xa_nil))) (xe_var 2))))) (xss_one (xs_if (xt_cmp (or_neA hu) os_ne (xe_var 4) xe_str (nomark _)) (xss_cons (xs_expr (xe_meth T.c_NameLook T.t_NameLook_reads (ok_NameLook_reads T 6) (hr.mono (by omega)) T.b_NameLook_reads pass0 (xe_var 0) (xa_cons (xe_ix (ix_any hu) os_ixA (xe_var 1) xe_int) (xa_cons (xe_var 2) (xa_cons (xe_var 5) (xa_cons (xe_var 3) xa_nil))))))
        (xss_one (xs_for PassesOwn.never rfl (xi_any (xe_slA (xe_var 1) (xo_some xe_int) xo_none)) (xg_name (i := 6) sc_NameLook_step.nd) (xss_one (xs_expr (xe_meth T.c_NameLook T.t_NameLook_walk h_NameLook_walk (hr.mono (by omega)) T.b_NameLook_walk pass0 (xe_var 0) (xa_cons (xe_var 6) (xa_cons (xe_var 2) (xa_cons (xe_var 3) xa_nil))))))))) xss_nil))))))))
    · exact T.F_NameLook_define.mem (k := n + 10) (B := (B_NameLook_define T.Cl (G_NameLook_walk T.Cl n))) sc_NameLook_define fun cdv A outer s H E hr => by
        have hu := hr.units
        have hv := hr.units65
        have hx := hr.units80
        exact (xss_cons (xs_asg (xe_var 1) (xg_tup rfl (xgs_cons (xg_name (i := 3) sc_NameLook_define.nd) (xgs_cons (xg_name (i := 4) sc_NameLook_define.nd) (xgs_cons (xg_name (i := 5) sc_NameLook_define.nd) (xgs_cons (xg_name (i := 6) sc_NameLook_define.nd) (xgs_cons (xg_name (i := 7) sc_NameLook_define.nd) (xgs_cons (xg_name (i := 8) sc_NameLook_define.nd) xgs_nil))))))))
        (xss_cons (xs_expr (xe_meth T.c_NameLook T.t_NameLook_is_kind (ok_NameLook_is_kind T) (hr.mono (by omega)) T.b_NameLook_is_kind pass0 (xe_var 0) (xa_cons (xe_var 2) (xa_cons (xe_var 4) (xa_cons (xe_var 6) xa_nil)))))
        (xss_cons (xs_set (i := 9) sc_NameLook_define.nd xe_dct)
        (xss_cons (xs_for PassesOwn.never rfl (xi_any (xe_var 7)) (xg_tup rfl (xgs_cons (xg_name (i := 10) sc_NameLook_define.nd) (xgs_cons (xg_name (i := 11) sc_NameLook_define.nd) xgs_nil))) (xss_cons (xs_expr (xe_meth T.c_NameLook T.t_NameLook_is_kind (ok_NameLook_is_kind T) (hr.mono (by omega)) T.b_NameLook_is_kind pass0 (xe_var 0) (xa_cons (xe_var 2) (xa_cons (xe_var 4) (xa_cons (xe_var 11) xa_nil)))))
        (xss_one (xs_setA hu (xe_var 9) (xe_var 10) (xe_var 2)))))
        (xss_one (xs_expr (xe_meth T.c_NameLook T.t_NameLook_walk h_NameLook_walk (hr.mono (by omega)) T.b_NameLook_walk pass0 (xe_var 0) (xa_cons (xe_var 8) (xa_cons (xe_var 2) (xa_cons (xe_var 9) xa_nil))))))))))
theorem ok_NameLook_walk (T : Tp K mg) (n : Nat) : FnOk P w K mg base CX0 (n + 10) T.f_NameLook_walk T.d_NameLook_walk ["self", "block", "mask", "known"] (spM K w 4 (G_NameLook_walk T.Cl n)) := (okc_NameLook_walk T n).1
theorem ok_NameLook_step (T : Tp K mg) (n : Nat) : FnOk P w K mg base CX0 (n + 10) T.f_NameLook_step T.d_NameLook_step ["self", "statement", "mask", "known"] (spM K w 4 (G_NameLook_step T.Cl n)) := (okc_NameLook_walk T n).2.1
theorem ok_NameLook_define (T : Tp K mg) (n : Nat) : FnOk P w K mg base CX0 (n + 10) T.f_NameLook_define T.d_NameLook_define ["self", "statement", "mask"] (spM K w 3 (G_NameLook_define T.Cl n)) := (okc_NameLook_walk T n).2.2
theorem sc_shared_names : FnScope ["tree", "mask", "look", "fault"] ["tree", "mask"] (defScope (topS 4)) := ⟨rfl, rfl, rfl, by decide +kernel, rfl, by decide +kernel, by decide +kernel⟩
theorem ok_shared_names (T : Tp K mg) : FnOk P w K mg base CX0 (23) T.f_shared_names T.d_shared_names ["tree", "mask"] (spP K w 2 (G_shared_names T.Cl)) :=
    T.F_shared_names.pure sc_shared_names fun cdv A outer s H E hr => ⟨(B_shared_names T.Cl), by
        have hu := hr.units
        have hv := hr.units65
        have hx := hr.units80
        exact (xss_cons (xs_set (i := 2) sc_shared_names.nd (xe_make T.M_NameLook (ok_NameLook_init T) (hr.mono (by omega)) T.mC_NameLook T.b_NameLook_init pass0 (xa_cons (xe_var 0) (xa_cons (xe_var 1) xa_nil))))
        (xss_cons (xs_expr (xe_meth T.c_NameLook T.t_NameLook_walk (ok_NameLook_walk T 12) (hr.mono (by omega)) T.b_NameLook_walk pass0 (xe_var 2) (xa_cons (xe_var 0) (xa_cons (xe_var 1) (xa_cons xe_dct xa_nil)))))
        (xss_one (xs_ret (xe_lcF rfl sc_shared_names.nd (xi_any (xe_callB (cr_sort hx rfl) (cs_sort false) T.z_sorted (by decide +kernel) (xa_cons (xe_fld T.fl_faults (xe_var 2)) xa_nil))) (blkOk_by (own := [("fault", 3)]) (by show blkC ["tree", "mask", "look", "fault"] (defScope (topS 4)) _ _ = true; decide +kernel)) (fun _ _ _ _ _ => (xg_name (i := 3) sc_shared_names.nd)) (fun _ _ _ _ _ => xts_nil) (fun _ _ _ _ _ => (xe_tup (xa_cons (xe_ix (ix_any hu) os_ixA (xe_fld T.fl_faults (xe_var 2)) (xe_var 3)) (xa_cons (xe_ix (ix_any hu) os_ixA (xe_var 3) xe_int) (xa_cons (xe_ix (ix_any hu) os_ixA (xe_var 3) xe_int) (xa_cons (xe_ix (ix_any hu) os_ixA (xe_var 3) xe_int) xa_nil))))))))))), fun ds _ _ => Pr.le_of rfl⟩
theorem sc_plain_names : FnScope ["tree", "fault"] ["tree"] (defScope (topS 5)) := ⟨rfl, rfl, rfl, by decide +kernel, rfl, by decide +kernel, by decide +kernel⟩
theorem ok_plain_names (T : Tp K mg) : FnOk P w K mg base CX0 (24) T.f_plain_names T.d_plain_names ["tree"] (spM K w 1 (G_plain_names T.Cl)) :=
    T.F_plain_names.mem (B := (B_plain_names T.Cl)) sc_plain_names fun cdv A outer s H E hr => by
        have hu := hr.units
        have hv := hr.units65
        have hx := hr.units80
        exact (xss_one (xs_ret (xe_lcP rfl sc_plain_names.nd (xi_any (xe_call (ok_shared_names T) (hr.mono (by omega)) T.m_shared_names T.F_shared_names.kp T.b_shared_names pass0 (xa_cons (xe_call (ok_lifted_tree T 7) (hr.mono (by omega)) T.m_lifted_tree T.F_lifted_tree.kp T.b_lifted_tree pass0 (xa_cons (xe_var 0) xa_nil)) (xa_cons xe_int xa_nil)))) (blkOk_by (own := [("fault", 1)]) (by show blkC ["tree", "fault"] (defScope (topS 5)) _ _ = true; decide +kernel)) (fun _ _ _ _ _ => (xg_name (i := 1) sc_plain_names.nd)) (fun _ _ _ _ _ => xts_nil) (fun _ _ _ _ _ => (xe_slA (xe_var 1) (xo_some xe_int) xo_none)))))
theorem sc_law : FnScope ["_law_script", "_law_tree", "_law_due", "_law_found"] ["_law_script"] (defScope (topS 17)) := ⟨rfl, rfl, rfl, by decide +kernel, rfl, by decide +kernel, by decide +kernel⟩
theorem ok_law (T : Tp K mg) : FnOk P w K mg base CX0 (25) T.f_law T.d_law ["_law_script"] (spP K w 1 (G_law T.Cl)) :=
    T.F_law.pure sc_law fun cdv A outer s H E hr => ⟨(B_law T.Cl), by
        have hu := hr.units
        have hv := hr.units65
        have hx := hr.units80
        exact (xss_cons (xs_asg (xe_call (ok_law_built T) (hr.mono (by omega)) T.m_law_built T.F_law_built.kp T.b_law_built pass0 (xa_cons (xe_var 0) xa_nil)) (xg_tup rfl (xgs_cons (xg_name (i := 1) sc_law.nd) (xgs_cons (xg_name (i := 2) sc_law.nd) xgs_nil))))
        (xss_cons (xs_set (i := 3) sc_law.nd (xe_callM (ok_plain_names T) (hr.mono (by omega)) T.m_plain_names T.F_plain_names.kp T.b_plain_names pass0 (xa_cons (xe_var 1) xa_nil)))
        (xss_cons (xs_if (xt_w (xw_or (xt_not (xt_val (xe_callM (ok_law_right T) (hr.mono (by omega)) T.m_law_right T.F_law_right.kp T.b_law_right pass0 (xa_cons (xe_var 3) (xa_cons (xe_var 2) xa_nil))))) (xw_or1 (xt_cmp (or_neA hu) os_ne (xe_var 1) (xe_ix (ix_any hu) os_ixA (xe_call (ok_law_built T) (hr.mono (by omega)) T.m_law_built T.F_law_built.kp T.b_law_built pass0 (xa_cons (xe_var 0) xa_nil)) xe_int) (nomark _))))) (xss_one (xs_ret xe_bl)) xss_nil)
        (xss_cons (xs_expr (xe_bm PySem.F.plainAttrs_list PySem.F.slot_list_append PySem.F.type_list_append mt_append ms_append (xe_var 3) (xa_cons (xe_tup (xa_cons xe_int (xa_cons xe_str (xa_cons xe_str xa_nil)))) xa_nil)))
        (xss_one (xs_ret (xe_callM (ok_law_right T) (hr.mono (by omega)) T.m_law_right T.F_law_right.kp T.b_law_right pass0 (xa_cons (xe_callM (ok_plain_names T) (hr.mono (by omega)) T.m_plain_names T.F_plain_names.kp T.b_plain_names pass0 (xa_cons (xe_var 1) xa_nil)) (xa_cons (xe_var 2) xa_nil))))))))), fun ds _ _ => Pr.le_of rfl⟩
end
def spLaw (K : PySem.W.Frag) : Sp := fun vs H Q _ => ∃ (a : Addr) (ns : List Int), vs = [.ref a] ∧ SqL K H a (ns.map V.int) ∧ ns.length ≤ 63 ∧ ∀ H', Q (.bl true) H'
theorem all_mk {l : PySem.W.OpenLaw} {w : World} {K : PySem.W.Frag} {h : Heap} {mg : Str → Option Value} {fa : Addr} (X : K.In h) (G : h.Ns mainGlobals mg) (hfa : mg "law" = some (.ref fa))
    {C_NameLook : Addr}
    {od1 an1 : Option Addr} {sl1 : Array (Option Value)} {oc1 kV1 dc1 pm1 cd1 ct1 : Value} {f1 : Addr}
    {od2 an2 : Option Addr} {sl2 : Array (Option Value)} {oc2 kV2 dc2 pm2 cd2 ct2 : Value} {f2 : Addr}
    {od3 an3 : Option Addr} {sl3 : Array (Option Value)} {oc3 kV3 dc3 pm3 cd3 ct3 : Value} {f3 : Addr}
    {od4 an4 : Option Addr} {sl4 : Array (Option Value)} {oc4 kV4 dc4 pm4 cd4 ct4 : Value} {f4 : Addr}
    {od5 an5 : Option Addr} {sl5 : Array (Option Value)} {oc5 kV5 dc5 pm5 cd5 ct5 : Value} {f5 : Addr}
    {od6 an6 : Option Addr} {sl6 : Array (Option Value)} {oc6 kV6 dc6 pm6 cd6 ct6 : Value} {f6 : Addr}
    {od7 an7 : Option Addr} {sl7 : Array (Option Value)} {oc7 kV7 dc7 pm7 cd7 ct7 : Value} {f7 : Addr}
    {od8 an8 : Option Addr} {sl8 : Array (Option Value)} {oc8 kV8 dc8 pm8 cd8 ct8 : Value} {f8 : Addr}
    {od9 an9 : Option Addr} {sl9 : Array (Option Value)} {oc9 kV9 dc9 pm9 cd9 ct9 : Value} {f9 : Addr}
    {od10 an10 : Option Addr} {sl10 : Array (Option Value)} {oc10 kV10 dc10 pm10 cd10 ct10 : Value} {f10 : Addr}
    {od11 an11 : Option Addr} {sl11 : Array (Option Value)} {oc11 kV11 dc11 pm11 cd11 ct11 : Value} {f11 : Addr}
    {od12 an12 : Option Addr} {sl12 : Array (Option Value)} {oc12 kV12 dc12 pm12 cd12 ct12 : Value} {f12 : Addr}
    {od13 an13 : Option Addr} {sl13 : Array (Option Value)} {oc13 kV13 dc13 pm13 cd13 ct13 : Value} {f13 : Addr}
    {od14 an14 : Option Addr} {sl14 : Array (Option Value)} {oc14 kV14 dc14 pm14 cd14 ct14 : Value} {f14 : Addr}
    {od15 an15 : Option Addr} {sl15 : Array (Option Value)} {oc15 kV15 dc15 pm15 cd15 ct15 : Value} {f15 : Addr}
    {od16 an16 : Option Addr} {sl16 : Array (Option Value)} {oc16 kV16 dc16 pm16 cd16 ct16 : Value} {f16 : Addr}
    {od17 an17 : Option Addr} {sl17 : Array (Option Value)} {oc17 kV17 dc17 pm17 cd17 ct17 : Value} {f17 : Addr}
    {od18 an18 : Option Addr} {sl18 : Array (Option Value)} {oc18 kV18 dc18 pm18 cd18 ct18 : Value} {f18 : Addr}
    {od19 an19 : Option Addr} {sl19 : Array (Option Value)} {oc19 kV19 dc19 pm19 cd19 ct19 : Value} {f19 : Addr}
    {od20 an20 : Option Addr} {sl20 : Array (Option Value)} {oc20 kV20 dc20 pm20 cd20 ct20 : Value} {f20 : Addr}
    {od21 an21 : Option Addr} {sl21 : Array (Option Value)} {oc21 kV21 dc21 pm21 cd21 ct21 : Value} {f21 : Addr}
    {od22 an22 : Option Addr} {sl22 : Array (Option Value)} {oc22 kV22 dc22 pm22 cd22 ct22 : Value} {f22 : Addr}
    {od23 an23 : Option Addr} {sl23 : Array (Option Value)} {oc23 kV23 dc23 pm23 cd23 ct23 : Value} {f23 : Addr}
    {od24 an24 : Option Addr} {sl24 : Array (Option Value)} {oc24 kV24 dc24 pm24 cd24 ct24 : Value} {f24 : Addr}
    {od25 an25 : Option Addr} {sl25 : Array (Option Value)} {oc25 kV25 dc25 pm25 cd25 ct25 : Value} {f25 : Addr}
    (aC_NameLook : PySem.W.nsIn K mainGlobals "NameLook" = some (some (.ref C_NameLook)))
    (a1 : PySem.W.nsIn K mainGlobals "lifted_tree" = some (some (.ref f1)))
    (l1 : K.lookup f1 = some ⟨oc1, od1, .func (PySem.W.fnOf "lifted_tree" "lifted_tree" (defArgs (topS 1)) (defBody (topS 1)) (defScope (topS 1)) .none kV1 dc1 pm1 an1 cd1 ct1), sl1⟩) (c1 : PySem.W.codeIn K cd1 "lifted_tree" = true) (k1 : PySem.W.keepIn K (.ref f1) = true)
    (a2 : PySem.W.nsIn K mainGlobals "mask_without" = some (some (.ref f2)))
    (l2 : K.lookup f2 = some ⟨oc2, od2, .func (PySem.W.fnOf "mask_without" "mask_without" (defArgs (topS 2)) (defBody (topS 2)) (defScope (topS 2)) .none kV2 dc2 pm2 an2 cd2 ct2), sl2⟩) (c2 : PySem.W.codeIn K cd2 "mask_without" = true) (k2 : PySem.W.keepIn K (.ref f2) = true)
    (a3 : PySem.W.findIn K (.ref C_NameLook) "note" = some (some (.ref f3))) (i3 : PySem.W.isFn K (.ref f3) = true)
    (l3 : K.lookup f3 = some ⟨oc3, od3, .func (PySem.W.fnOf "note" "NameLook.note" (defArgs (inClass (topS 3) 1)) (defBody (inClass (topS 3) 1)) (defScope (inClass (topS 3) 1)) .none kV3 dc3 pm3 an3 cd3 ct3), sl3⟩) (c3 : PySem.W.codeIn K cd3 "NameLook.note" = true) (k3 : PySem.W.keepIn K (.ref f3) = true)
    (a4 : PySem.W.nsIn K mainGlobals "_law_cell_at" = some (some (.ref f4)))
    (l4 : K.lookup f4 = some ⟨oc4, od4, .func (PySem.W.fnOf "_law_cell_at" "_law_cell_at" (defArgs (topS 7)) (defBody (topS 7)) (defScope (topS 7)) .none kV4 dc4 pm4 an4 cd4 ct4), sl4⟩) (c4 : PySem.W.codeIn K cd4 "_law_cell_at" = true) (k4 : PySem.W.keepIn K (.ref f4) = true)
    (a5 : PySem.W.nsIn K mainGlobals "_law_mixed" = some (some (.ref f5)))
    (l5 : K.lookup f5 = some ⟨oc5, od5, .func (PySem.W.fnOf "_law_mixed" "_law_mixed" (defArgs (topS 8)) (defBody (topS 8)) (defScope (topS 8)) .none kV5 dc5 pm5 an5 cd5 ct5), sl5⟩) (c5 : PySem.W.codeIn K cd5 "_law_mixed" = true) (k5 : PySem.W.keepIn K (.ref f5) = true)
    (a6 : PySem.W.nsIn K mainGlobals "_law_word" = some (some (.ref f6)))
    (l6 : K.lookup f6 = some ⟨oc6, od6, .func (PySem.W.fnOf "_law_word" "_law_word" (defArgs (topS 9)) (defBody (topS 9)) (defScope (topS 9)) .none kV6 dc6 pm6 an6 cd6 ct6), sl6⟩) (c6 : PySem.W.codeIn K cd6 "_law_word" = true) (k6 : PySem.W.keepIn K (.ref f6) = true)
    (a7 : PySem.W.nsIn K mainGlobals "_law_reads" = some (some (.ref f7)))
    (l7 : K.lookup f7 = some ⟨oc7, od7, .func (PySem.W.fnOf "_law_reads" "_law_reads" (defArgs (topS 12)) (defBody (topS 12)) (defScope (topS 12)) .none kV7 dc7 pm7 an7 cd7 ct7), sl7⟩) (c7 : PySem.W.codeIn K cd7 "_law_reads" = true) (k7 : PySem.W.keepIn K (.ref f7) = true)
    (a8 : PySem.W.nsIn K mainGlobals "_law_opened" = some (some (.ref f8)))
    (l8 : K.lookup f8 = some ⟨oc8, od8, .func (PySem.W.fnOf "_law_opened" "_law_opened" (defArgs (topS 13)) (defBody (topS 13)) (defScope (topS 13)) .none kV8 dc8 pm8 an8 cd8 ct8), sl8⟩) (c8 : PySem.W.codeIn K cd8 "_law_opened" = true) (k8 : PySem.W.keepIn K (.ref f8) = true)
    (a9 : PySem.W.nsIn K mainGlobals "_law_right" = some (some (.ref f9)))
    (l9 : K.lookup f9 = some ⟨oc9, od9, .func (PySem.W.fnOf "_law_right" "_law_right" (defArgs (topS 16)) (defBody (topS 16)) (defScope (topS 16)) .none kV9 dc9 pm9 an9 cd9 ct9), sl9⟩) (c9 : PySem.W.codeIn K cd9 "_law_right" = true) (k9 : PySem.W.keepIn K (.ref f9) = true)
    (a10 : PySem.W.findIn K (.ref C_NameLook) "first" = some (some (.ref f10))) (i10 : PySem.W.isFn K (.ref f10) = true)
    (l10 : K.lookup f10 = some ⟨oc10, od10, .func (PySem.W.fnOf "first" "NameLook.first" (defArgs (inClass (topS 3) 3)) (defBody (inClass (topS 3) 3)) (defScope (inClass (topS 3) 3)) .none kV10 dc10 pm10 an10 cd10 ct10), sl10⟩) (c10 : PySem.W.codeIn K cd10 "NameLook.first" = true) (k10 : PySem.W.keepIn K (.ref f10) = true)
    (a11 : PySem.W.findIn K (.ref C_NameLook) "is_kind" = some (some (.ref f11))) (i11 : PySem.W.isFn K (.ref f11) = true)
    (l11 : K.lookup f11 = some ⟨oc11, od11, .func (PySem.W.fnOf "is_kind" "NameLook.is_kind" (defArgs (inClass (topS 3) 4)) (defBody (inClass (topS 3) 4)) (defScope (inClass (topS 3) 4)) .none kV11 dc11 pm11 an11 cd11 ct11), sl11⟩) (c11 : PySem.W.codeIn K cd11 "NameLook.is_kind" = true) (k11 : PySem.W.keepIn K (.ref f11) = true)
    (a12 : PySem.W.findIn K (.ref C_NameLook) "uses" = some (some (.ref f12))) (i12 : PySem.W.isFn K (.ref f12) = true)
    (l12 : K.lookup f12 = some ⟨oc12, od12, .func (PySem.W.fnOf "uses" "NameLook.uses" (defArgs (inClass (topS 3) 9)) (defBody (inClass (topS 3) 9)) (defScope (inClass (topS 3) 9)) .none kV12 dc12 pm12 an12 cd12 ct12), sl12⟩) (c12 : PySem.W.codeIn K cd12 "NameLook.uses" = true) (k12 : PySem.W.keepIn K (.ref f12) = true)
    (a13 : PySem.W.nsIn K mainGlobals "_law_names" = some (some (.ref f13)))
    (l13 : K.lookup f13 = some ⟨oc13, od13, .func (PySem.W.fnOf "_law_names" "_law_names" (defArgs (topS 10)) (defBody (topS 10)) (defScope (topS 10)) .none kV13 dc13 pm13 an13 cd13 ct13), sl13⟩) (c13 : PySem.W.codeIn K cd13 "_law_names" = true) (k13 : PySem.W.keepIn K (.ref f13) = true)
    (a14 : PySem.W.nsIn K mainGlobals "_law_expr" = some (some (.ref f14)))
    (l14 : K.lookup f14 = some ⟨oc14, od14, .func (PySem.W.fnOf "_law_expr" "_law_expr" (defArgs (topS 11)) (defBody (topS 11)) (defScope (topS 11)) .none kV14 dc14 pm14 an14 cd14 ct14), sl14⟩) (c14 : PySem.W.codeIn K cd14 "_law_expr" = true) (k14 : PySem.W.keepIn K (.ref f14) = true)
    (a15 : PySem.W.findIn K (.ref C_NameLook) "gather" = some (some (.ref f15))) (i15 : PySem.W.isFn K (.ref f15) = true)
    (l15 : K.lookup f15 = some ⟨oc15, od15, .func (PySem.W.fnOf "gather" "NameLook.gather" (defArgs (inClass (topS 3) 2)) (defBody (inClass (topS 3) 2)) (defScope (inClass (topS 3) 2)) .none kV15 dc15 pm15 an15 cd15 ct15), sl15⟩) (c15 : PySem.W.codeIn K cd15 "NameLook.gather" = true) (k15 : PySem.W.keepIn K (.ref f15) = true)
    (a16 : PySem.W.findIn K (.ref C_NameLook) "reads" = some (some (.ref f16))) (i16 : PySem.W.isFn K (.ref f16) = true)
    (l16 : K.lookup f16 = some ⟨oc16, od16, .func (PySem.W.fnOf "reads" "NameLook.reads" (defArgs (inClass (topS 3) 8)) (defBody (inClass (topS 3) 8)) (defScope (inClass (topS 3) 8)) .none kV16 dc16 pm16 an16 cd16 ct16), sl16⟩) (c16 : PySem.W.codeIn K cd16 "NameLook.reads" = true) (k16 : PySem.W.keepIn K (.ref f16) = true)
    (a17 : PySem.W.findIn K (.ref C_NameLook) "__init__" = some (some (.ref f17))) (i17 : PySem.W.isFn K (.ref f17) = true)
    (l17 : K.lookup f17 = some ⟨oc17, od17, .func (PySem.W.fnOf "__init__" "NameLook.__init__" (defArgs (inClass (topS 3) 0)) (defBody (inClass (topS 3) 0)) (defScope (inClass (topS 3) 0)) .none kV17 dc17 pm17 an17 cd17 ct17), sl17⟩) (c17 : PySem.W.codeIn K cd17 "NameLook.__init__" = true) (k17 : PySem.W.keepIn K (.ref f17) = true)
    (a18 : PySem.W.nsIn K mainGlobals "_law_row" = some (some (.ref f18)))
    (l18 : K.lookup f18 = some ⟨oc18, od18, .func (PySem.W.fnOf "_law_row" "_law_row" (defArgs (topS 14)) (defBody (topS 14)) (defScope (topS 14)) .none kV18 dc18 pm18 an18 cd18 ct18), sl18⟩) (c18 : PySem.W.codeIn K cd18 "_law_row" = true) (k18 : PySem.W.keepIn K (.ref f18) = true)
    (a19 : PySem.W.nsIn K mainGlobals "_law_built" = some (some (.ref f19)))
    (l19 : K.lookup f19 = some ⟨oc19, od19, .func (PySem.W.fnOf "_law_built" "_law_built" (defArgs (topS 15)) (defBody (topS 15)) (defScope (topS 15)) .none kV19 dc19 pm19 an19 cd19 ct19), sl19⟩) (c19 : PySem.W.codeIn K cd19 "_law_built" = true) (k19 : PySem.W.keepIn K (.ref f19) = true)
    (a20 : PySem.W.findIn K (.ref C_NameLook) "walk" = some (some (.ref f20))) (i20 : PySem.W.isFn K (.ref f20) = true)
    (l20 : K.lookup f20 = some ⟨oc20, od20, .func (PySem.W.fnOf "walk" "NameLook.walk" (defArgs (inClass (topS 3) 5)) (defBody (inClass (topS 3) 5)) (defScope (inClass (topS 3) 5)) .none kV20 dc20 pm20 an20 cd20 ct20), sl20⟩) (c20 : PySem.W.codeIn K cd20 "NameLook.walk" = true) (k20 : PySem.W.keepIn K (.ref f20) = true)
    (a21 : PySem.W.findIn K (.ref C_NameLook) "step" = some (some (.ref f21))) (i21 : PySem.W.isFn K (.ref f21) = true)
    (l21 : K.lookup f21 = some ⟨oc21, od21, .func (PySem.W.fnOf "step" "NameLook.step" (defArgs (inClass (topS 3) 6)) (defBody (inClass (topS 3) 6)) (defScope (inClass (topS 3) 6)) .none kV21 dc21 pm21 an21 cd21 ct21), sl21⟩) (c21 : PySem.W.codeIn K cd21 "NameLook.step" = true) (k21 : PySem.W.keepIn K (.ref f21) = true)
    (a22 : PySem.W.findIn K (.ref C_NameLook) "define" = some (some (.ref f22))) (i22 : PySem.W.isFn K (.ref f22) = true)
    (l22 : K.lookup f22 = some ⟨oc22, od22, .func (PySem.W.fnOf "define" "NameLook.define" (defArgs (inClass (topS 3) 7)) (defBody (inClass (topS 3) 7)) (defScope (inClass (topS 3) 7)) .none kV22 dc22 pm22 an22 cd22 ct22), sl22⟩) (c22 : PySem.W.codeIn K cd22 "NameLook.define" = true) (k22 : PySem.W.keepIn K (.ref f22) = true)
    (a23 : PySem.W.nsIn K mainGlobals "shared_names" = some (some (.ref f23)))
    (l23 : K.lookup f23 = some ⟨oc23, od23, .func (PySem.W.fnOf "shared_names" "shared_names" (defArgs (topS 4)) (defBody (topS 4)) (defScope (topS 4)) .none kV23 dc23 pm23 an23 cd23 ct23), sl23⟩) (c23 : PySem.W.codeIn K cd23 "shared_names" = true) (k23 : PySem.W.keepIn K (.ref f23) = true)
    (a24 : PySem.W.nsIn K mainGlobals "plain_names" = some (some (.ref f24)))
    (l24 : K.lookup f24 = some ⟨oc24, od24, .func (PySem.W.fnOf "plain_names" "plain_names" (defArgs (topS 5)) (defBody (topS 5)) (defScope (topS 5)) .none kV24 dc24 pm24 an24 cd24 ct24), sl24⟩) (c24 : PySem.W.codeIn K cd24 "plain_names" = true) (k24 : PySem.W.keepIn K (.ref f24) = true)
    (a25 : PySem.W.nsIn K mainGlobals "law" = some (some (.ref f25)))
    (l25 : K.lookup f25 = some ⟨oc25, od25, .func (PySem.W.fnOf "law" "law" (defArgs (topS 17)) (defBody (topS 17)) (defScope (topS 17)) .none kV25 dc25 pm25 an25 cd25 ct25), sl25⟩) (c25 : PySem.W.codeIn K cd25 "law" = true) (k25 : PySem.W.keepIn K (.ref f25) = true)
    (pg_NameLook : PySem.W.plainGet K C_NameLook Str.empty = true) (hd_NameLook : PySem.W.hasDictIn K C_NameLook = true) (po_NameLook : PySem.W.plainOver K C_NameLook = true) (sa_NameLook : PySem.W.findIn K (.ref C_NameLook) "__setattr__" = some (some (.builtin "object.__setattr__")))
    (mk_NameLook : PySem.W.makesIn K C_NameLook = true) (kc_NameLook : PySem.W.keepIn K (.ref C_NameLook) = true)
    (n_NameLook_faults : PySem.W.findIn K (.ref C_NameLook) "faults" = some none)
    (n_NameLook_defs : PySem.W.findIn K (.ref C_NameLook) "defs" = some none)
    (n_NameLook_records : PySem.W.findIn K (.ref C_NameLook) "records" = some none)
    (z_bool : PySem.W.nsIn K mainGlobals "bool" = some none)
    (z_enumerate : PySem.W.nsIn K mainGlobals "enumerate" = some none)
    (z_isinstance : PySem.W.nsIn K mainGlobals "isinstance" = some none)
    (z_len : PySem.W.nsIn K mainGlobals "len" = some none)
    (z_list : PySem.W.nsIn K mainGlobals "list" = some none)
    (z_range : PySem.W.nsIn K mainGlobals "range" = some none)
    (z_sorted : PySem.W.nsIn K mainGlobals "sorted" = some none)
    (z_tuple : PySem.W.nsIn K mainGlobals "tuple" = some none) :
    ∃ fd : FuncData, (∀ (s : Shared) (v : Value), BindsTo s fd ⟨[v], []⟩ [("_law_script", v)]) ∧ ∀ base : Heap, K.In base → base.Ns mainGlobals mg → FnOk l.prog w K mg base CX0 25 fa fd ["_law_script"] (spLaw K) := by
  have e := hfa.symm.trans (PySem.W.mg_of X G a25)
  cases e
  let T : Tp K mg := ⟨fun i => [C_NameLook].getD i 0,
    _,
    _,
    fun_mk (st := topS 1) l1 c1 k1,
    (fun_mk (st := topS 1) l1 c1 k1).binds (ps := ["tree"]) fun _ _ _ _ _ _ us hl => match us, hl with | [_], _ => rfl,
    PySem.W.mg_of X G a1,
    _,
    _,
    fun_mk (st := topS 2) l2 c2 k2,
    (fun_mk (st := topS 2) l2 c2 k2).binds (ps := ["mask", "other"]) fun _ _ _ _ _ _ us hl => match us, hl with | [_, _], _ => rfl,
    PySem.W.mg_of X G a2,
    _,
    _,
    fun_mk (st := inClass (topS 3) 1) l3 c3 k3,
    (fun_mk (st := inClass (topS 3) 1) l3 c3 k3).binds (ps := ["self", "mask", "at", "what", "name"]) fun _ _ _ _ _ _ us hl => match us, hl with | [_, _, _, _, _], _ => rfl,
    ⟨a3, i3, k3⟩,
    _,
    _,
    fun_mk (st := topS 7) l4 c4 k4,
    (fun_mk (st := topS 7) l4 c4 k4).binds (ps := ["_law_script", "_law_k"]) fun _ _ _ _ _ _ us hl => match us, hl with | [_, _], _ => rfl,
    PySem.W.mg_of X G a4,
    _,
    _,
    fun_mk (st := topS 8) l5 c5 k5,
    (fun_mk (st := topS 8) l5 c5 k5).binds (ps := ["_law_cell", "_law_k"]) fun _ _ _ _ _ _ us hl => match us, hl with | [_, _], _ => rfl,
    PySem.W.mg_of X G a5,
    _,
    _,
    fun_mk (st := topS 9) l6 c6 k6,
    (fun_mk (st := topS 9) l6 c6 k6).binds (ps := ["_law_number"]) fun _ _ _ _ _ _ us hl => match us, hl with | [_], _ => rfl,
    PySem.W.mg_of X G a6,
    _,
    _,
    fun_mk (st := topS 12) l7 c7 k7,
    (fun_mk (st := topS 12) l7 c7 k7).binds (ps := ["_law_e"]) fun _ _ _ _ _ _ us hl => match us, hl with | [_], _ => rfl,
    PySem.W.mg_of X G a7,
    _,
    _,
    fun_mk (st := topS 13) l8 c8 k8,
    (fun_mk (st := topS 13) l8 c8 k8).binds (ps := ["_law_stack", "_law_form", "_law_at", "_law_e"]) fun _ _ _ _ _ _ us hl => match us, hl with | [_, _, _, _], _ => rfl,
    PySem.W.mg_of X G a8,
    _,
    _,
    fun_mk (st := topS 16) l9 c9 k9,
    (fun_mk (st := topS 16) l9 c9 k9).binds (ps := ["_law_found", "_law_due"]) fun _ _ _ _ _ _ us hl => match us, hl with | [_, _], _ => rfl,
    PySem.W.mg_of X G a9,
    _,
    _,
    fun_mk (st := inClass (topS 3) 3) l10 c10 k10,
    (fun_mk (st := inClass (topS 3) 3) l10 c10 k10).binds (ps := ["self", "table", "name", "mask", "many"]) fun _ _ _ _ _ _ us hl => match us, hl with | [_, _, _, _, _], _ => rfl,
    ⟨a10, i10, k10⟩,
    _,
    _,
    fun_mk (st := inClass (topS 3) 4) l11 c11 k11,
    (fun_mk (st := inClass (topS 3) 4) l11 c11 k11).binds (ps := ["self", "mask", "at", "kind"]) fun _ _ _ _ _ _ us hl => match us, hl with | [_, _, _, _], _ => rfl,
    ⟨a11, i11, k11⟩,
    _,
    _,
    fun_mk (st := inClass (topS 3) 9) l12 c12 k12,
    (fun_mk (st := inClass (topS 3) 9) l12 c12 k12).binds (ps := ["self", "table", "what", "expr", "mask", "at"]) fun _ _ _ _ _ _ us hl => match us, hl with | [_, _, _, _, _, _], _ => rfl,
    ⟨a12, i12, k12⟩,
    _,
    _,
    fun_mk (st := topS 10) l13 c13 k13,
    (fun_mk (st := topS 10) l13 c13 k13).binds (ps := ["_law_number"]) fun _ _ _ _ _ _ us hl => match us, hl with | [_], _ => rfl,
    PySem.W.mg_of X G a13,
    _,
    _,
    fun_mk (st := topS 11) l14 c14 k14,
    (fun_mk (st := topS 11) l14 c14 k14).binds (ps := ["_law_number", "_law_names_here", "_law_deep"]) fun _ _ _ _ _ _ us hl => match us, hl with | [_, _, _], _ => rfl,
    PySem.W.mg_of X G a14,
    _,
    _,
    fun_mk (st := inClass (topS 3) 2) l15 c15 k15,
    (fun_mk (st := inClass (topS 3) 2) l15 c15 k15).binds (ps := ["self", "mask", "statement", "named"]) fun _ _ _ _ _ _ us hl => match us, hl with | [_, _, _, _], _ => rfl,
    ⟨a15, i15, k15⟩,
    _,
    _,
    fun_mk (st := inClass (topS 3) 8) l16 c16 k16,
    (fun_mk (st := inClass (topS 3) 8) l16 c16 k16).binds (ps := ["self", "expr", "mask", "at", "known"]) fun _ _ _ _ _ _ us hl => match us, hl with | [_, _, _, _, _], _ => rfl,
    ⟨a16, i16, k16⟩,
    _,
    _,
    fun_mk (st := inClass (topS 3) 0) l17 c17 k17,
    (fun_mk (st := inClass (topS 3) 0) l17 c17 k17).binds (ps := ["self", "tree", "mask"]) fun _ _ _ _ _ _ us hl => match us, hl with | [_, _, _], _ => rfl,
    _,
    _,
    fun_mk (st := topS 14) l18 c18 k18,
    (fun_mk (st := topS 14) l18 c18 k18).binds (ps := ["_law_stack", "_law_number", "_law_at", "_law_names_here"]) fun _ _ _ _ _ _ us hl => match us, hl with | [_, _, _, _], _ => rfl,
    PySem.W.mg_of X G a18,
    _,
    _,
    fun_mk (st := topS 15) l19 c19 k19,
    (fun_mk (st := topS 15) l19 c19 k19).binds (ps := ["_law_script"]) fun _ _ _ _ _ _ us hl => match us, hl with | [_], _ => rfl,
    PySem.W.mg_of X G a19,
    _,
    _,
    fun_mk (st := inClass (topS 3) 5) l20 c20 k20,
    (fun_mk (st := inClass (topS 3) 5) l20 c20 k20).binds (ps := ["self", "block", "mask", "known"]) fun _ _ _ _ _ _ us hl => match us, hl with | [_, _, _, _], _ => rfl,
    ⟨a20, i20, k20⟩,
    _,
    _,
    fun_mk (st := inClass (topS 3) 6) l21 c21 k21,
    (fun_mk (st := inClass (topS 3) 6) l21 c21 k21).binds (ps := ["self", "statement", "mask", "known"]) fun _ _ _ _ _ _ us hl => match us, hl with | [_, _, _, _], _ => rfl,
    ⟨a21, i21, k21⟩,
    _,
    _,
    fun_mk (st := inClass (topS 3) 7) l22 c22 k22,
    (fun_mk (st := inClass (topS 3) 7) l22 c22 k22).binds (ps := ["self", "statement", "mask"]) fun _ _ _ _ _ _ us hl => match us, hl with | [_, _, _], _ => rfl,
    ⟨a22, i22, k22⟩,
    _,
    _,
    fun_mk (st := topS 4) l23 c23 k23,
    (fun_mk (st := topS 4) l23 c23 k23).binds (ps := ["tree", "mask"]) fun _ _ _ _ _ _ us hl => match us, hl with | [_, _], _ => rfl,
    PySem.W.mg_of X G a23,
    _,
    _,
    fun_mk (st := topS 5) l24 c24 k24,
    (fun_mk (st := topS 5) l24 c24 k24).binds (ps := ["tree"]) fun _ _ _ _ _ _ us hl => match us, hl with | [_], _ => rfl,
    PySem.W.mg_of X G a24,
    _,
    _,
    fun_mk (st := topS 17) l25 c25 k25,
    (fun_mk (st := topS 17) l25 c25 k25).binds (ps := ["_law_script"]) fun _ _ _ _ _ _ us hl => match us, hl with | [_], _ => rfl,
    PySem.W.mg_of X G a25,
    ⟨pg_NameLook, hd_NameLook, po_NameLook, sa_NameLook⟩,
    ⟨mk_NameLook, a17, i17, kc_NameLook⟩,
    PySem.W.mg_of X G aC_NameLook,
    n_NameLook_faults,
    n_NameLook_defs,
    n_NameLook_records,
    PySem.W.mg_none_of X G z_bool,
    PySem.W.mg_none_of X G z_enumerate,
    PySem.W.mg_none_of X G z_isinstance,
    PySem.W.mg_none_of X G z_len,
    PySem.W.mg_none_of X G z_list,
    PySem.W.mg_none_of X G z_range,
    PySem.W.mg_none_of X G z_sorted,
    PySem.W.mg_none_of X G z_tuple⟩
  exact ⟨T.d_law, fun s v => .of_eq rfl, fun base _ _ => law_of (ok_law T) (law_true _)⟩
end MM.Law

open PySem PySem.W PyProof.Rows
set_option maxRecDepth 100000 in
set_option maxHeartbeats 0 in
theorem PySem.Challenge.cw_manymakes_k31_names_unset_holds : PySem.Challenge.rw_manymakes_k31_names_unset.Holds := by
  w_on; o_law; k_head; (case hw => w_witness2)
  k_fill
  refine L2.walk_of (l := PySem.Challenge.rw_manymakes_k31_names_unset) (n := 63) (k := 25) (x := "_law_script") (CX := fun _ => L2.CX0) (sp := fun w => MM.Law.spLaw _) rfl (by decide) rfl ⟨rfl, by decide, by decide⟩ (fun w h Y => PySem.W.kIn_of Y) ?F (fun _ _ a ns hl _ hS => ⟨a, ns, rfl, hS, hl, fun _ => rfl⟩) (fun _ _ _ _ _ h => h)
  case F =>
    intro w mg fa h KX G hmg
    refine' MM.Law.all_mk KX G hmg ?aC_NameLook ?a1 ?l1 ?c1 ?k1 ?a2 ?l2 ?c2 ?k2 ?a3 ?i3 ?l3 ?c3 ?k3 ?a4 ?l4 ?c4 ?k4 ?a5 ?l5 ?c5 ?k5 ?a6 ?l6 ?c6 ?k6 ?a7 ?l7 ?c7 ?k7 ?a8 ?l8 ?c8 ?k8 ?a9 ?l9 ?c9 ?k9 ?a10 ?i10 ?l10 ?c10 ?k10 ?a11 ?i11 ?l11 ?c11 ?k11 ?a12 ?i12 ?l12 ?c12 ?k12 ?a13 ?l13 ?c13 ?k13 ?a14 ?l14 ?c14 ?k14 ?a15 ?i15 ?l15 ?c15 ?k15 ?a16 ?i16 ?l16 ?c16 ?k16 ?a17 ?i17 ?l17 ?c17 ?k17 ?a18 ?l18 ?c18 ?k18 ?a19 ?l19 ?c19 ?k19 ?a20 ?i20 ?l20 ?c20 ?k20 ?a21 ?i21 ?l21 ?c21 ?k21 ?a22 ?i22 ?l22 ?c22 ?k22 ?a23 ?l23 ?c23 ?k23 ?a24 ?l24 ?c24 ?k24 ?a25 ?l25 ?c25 ?k25 ?pg_NameLook ?hd_NameLook ?po_NameLook ?sa_NameLook ?mk_NameLook ?kc_NameLook ?n_NameLook_faults ?n_NameLook_defs ?n_NameLook_records ?z_bool ?z_enumerate ?z_isinstance ?z_len ?z_list ?z_range ?z_sorted ?z_tuple
    (case aC_NameLook => k_is)
    (case a1 => k_is)
    (case l1 => k_is)
    (case c1 => k_is)
    (case k1 => k_is)
    (case a2 => k_is)
    (case l2 => k_is)
    (case c2 => k_is)
    (case k2 => k_is)
    (case a3 => k_is)
    (case i3 => k_is)
    (case l3 => k_is)
    (case c3 => k_is)
    (case k3 => k_is)
    (case a4 => k_is)
    (case l4 => k_is)
    (case c4 => k_is)
    (case k4 => k_is)
    (case a5 => k_is)
    (case l5 => k_is)
    (case c5 => k_is)
    (case k5 => k_is)
    (case a6 => k_is)
    (case l6 => k_is)
    (case c6 => k_is)
    (case k6 => k_is)
    (case a7 => k_is)
    (case l7 => k_is)
    (case c7 => k_is)
    (case k7 => k_is)
    (case a8 => k_is)
    (case l8 => k_is)
    (case c8 => k_is)
    (case k8 => k_is)
    (case a9 => k_is)
    (case l9 => k_is)
    (case c9 => k_is)
    (case k9 => k_is)
    (case a10 => k_is)
    (case i10 => k_is)
    (case l10 => k_is)
    (case c10 => k_is)
    (case k10 => k_is)
    (case a11 => k_is)
    (case i11 => k_is)
    (case l11 => k_is)
    (case c11 => k_is)
    (case k11 => k_is)
    (case a12 => k_is)
    (case i12 => k_is)
    (case l12 => k_is)
    (case c12 => k_is)
    (case k12 => k_is)
    (case a13 => k_is)
    (case l13 => k_is)
    (case c13 => k_is)
    (case k13 => k_is)
    (case a14 => k_is)
    (case l14 => k_is)
    (case c14 => k_is)
    (case k14 => k_is)
    (case a15 => k_is)
    (case i15 => k_is)
    (case l15 => k_is)
    (case c15 => k_is)
    (case k15 => k_is)
    (case a16 => k_is)
    (case i16 => k_is)
    (case l16 => k_is)
    (case c16 => k_is)
    (case k16 => k_is)
    (case a17 => k_is)
    (case i17 => k_is)
    (case l17 => k_is)
    (case c17 => k_is)
    (case k17 => k_is)
    (case a18 => k_is)
    (case l18 => k_is)
    (case c18 => k_is)
    (case k18 => k_is)
    (case a19 => k_is)
    (case l19 => k_is)
    (case c19 => k_is)
    (case k19 => k_is)
    (case a20 => k_is)
    (case i20 => k_is)
    (case l20 => k_is)
    (case c20 => k_is)
    (case k20 => k_is)
    (case a21 => k_is)
    (case i21 => k_is)
    (case l21 => k_is)
    (case c21 => k_is)
    (case k21 => k_is)
    (case a22 => k_is)
    (case i22 => k_is)
    (case l22 => k_is)
    (case c22 => k_is)
    (case k22 => k_is)
    (case a23 => k_is)
    (case l23 => k_is)
    (case c23 => k_is)
    (case k23 => k_is)
    (case a24 => k_is)
    (case l24 => k_is)
    (case c24 => k_is)
    (case k24 => k_is)
    (case a25 => k_is)
    (case l25 => k_is)
    (case c25 => k_is)
    (case k25 => k_is)
    (case pg_NameLook => k_is)
    (case hd_NameLook => k_is)
    (case po_NameLook => k_is)
    (case sa_NameLook => k_is)
    (case mk_NameLook => k_is)
    (case kc_NameLook => k_is)
    (case n_NameLook_faults => k_is)
    (case n_NameLook_defs => k_is)
    (case n_NameLook_records => k_is)
    (case z_bool => k_is)
    (case z_enumerate => k_is)
    (case z_isinstance => k_is)
    (case z_len => k_is)
    (case z_list => k_is)
    (case z_range => k_is)
    (case z_sorted => k_is)
    (case z_tuple => k_is)

