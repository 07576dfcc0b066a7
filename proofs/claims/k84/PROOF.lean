import PyProof.Rows.All
import HandS.ForMost
import HandS.Deep
import HandS.Style
import HandS.Zip
import HandS.Walk
import HandS.TupAny
import HandS.TupMul
import HandS.IsInst
import HandS.Wide
import HandS.Gcd
import HandS.Flow
import HandS.Comp
import PyProof.P3In
import HandS.Conv
import HandS.NoneIn
import KE.GoesEnum
import HandS.ExcOwn
import HandS.ExcIs
import HandS.Head0
import HandS.Head1
import HandS.Head2
import HandS.HeadEnd
import HandS.HeadHook1
import HandS.HeadHook2
import HandS.Words
import HandS.WordsExc
import PySem.Challenge.RW_kissroads_k84_across_fractions_by_rules
import HandS.Head3
set_option Elab.async false
set_option linter.all false
set_option maxRecDepth 100000
/-! RxA: values by structure, a store of objects that change, how both stand for the layer's values and heap. -/
namespace Rx
open PySem PySem.Spec PyProof.Rows L2

/-- a value by its structure; ls n: the n-th object of the store -/
inductive W where
  | non | bl (b : Bool) | int (i : Int) | str (x : Str) | ty (n : String)
  | tup (xs : List W) | ls (n : Nat) | frz (ns : List Int)

/-- an object that may change -/
inductive Ob where
  | lst (xs : List W)

abbrev Sto := List Ob

/-- what a mirror answers: a value and the store, or nothing is said -/
inductive R (α : Type) where
  | ok (a : α) (st : Sto)
  | err

abbrev Env' := List (Option W)
abbrev EX := Env' → Sto → R W
abbrev TX := Env' → Sto → R Bool
abbrev AX := Env' → Sto → R (List W)
abbrev FX := List W → Sto → R W

@[inline] def R.bind {α β : Type} (r : R α) (k : α → Sto → R β) : R β := match r with
  | .ok a st => k a st
  | .err => .err
theorem R.bind_ok {α β : Type} {r : R α} {k : α → Sto → R β} {b : β} {st' : Sto} (h : r.bind k = .ok b st') : ∃ a st, r = .ok a st ∧ k a st = .ok b st' := by
  cases r with
  | ok a st => exact ⟨a, st, rfl, h⟩
  | err => cases h

/-- a tuple, tracked or written -/
def Tp (K : PySem.W.Frag) (H : Hp) (a : Addr) (xs : List V) : Prop := H a = some (.tup xs) ∨
    ∃ (o : Obj) (its : Array Value) (n : Nat), K.lookup a = some o ∧ o.cls = .type "tuple" ∧ o.data = .seq its n ∧ its.size ≤ sizeLine ∧ Vals xs its.toList
theorem Tp.sq {K : PySem.W.Frag} {H : Hp} {a : Addr} {xs : List V} (h : Tp K H a xs) : SqT K H a xs := by
  rcases h with h | h
  · exact .inl (.inl h)
  · exact .inr h
/-- the script -/
def Fz (K : PySem.W.Frag) (H : Hp) (a : Addr) (ns : List Int) : Prop := (∃ o, H a = some (.frz o (.lst (ns.map V.int)))) ∨
    ∃ (o : Obj) (its : Array Value) (n : Nat), K.lookup a = some o ∧ o.cls = .type "list" ∧ o.dict = none ∧ o.data = .seq its n ∧ its.size ≤ sizeLine ∧ Vals (ns.map V.int) its.toList
theorem Fz.sq {K : PySem.W.Frag} {H : Hp} {a : Addr} {ns : List Int} (h : Fz K H a ns) : SqL K H a (ns.map V.int) := by
  rcases h with ⟨o, h⟩ | h
  · exact .inl (.inr ⟨o, h⟩)
  · exact .inr h

mutual
inductive Rep (K : PySem.W.Frag) (μ : Nat → Addr) (L : Nat) (H : Hp) : V → W → Prop
  | non : Rep K μ L H .non .non
  | bl (b : Bool) : Rep K μ L H (.bl b) (.bl b)
  | int (i : Int) : Rep K μ L H (.int i) (.int i)
  | str (x : Str) : Rep K μ L H (.str x) (.str x)
  | ty (n : String) : Rep K μ L H (.ty n) (.ty n)
  | tup {a : Addr} {vs : List V} {ws : List W} : Tp K H a vs → Reps K μ L H vs ws → Rep K μ L H (.ref a) (.tup ws)
  | ls {n : Nat} : n < L → Rep K μ L H (.ref (μ n)) (.ls n)
  | frz {a : Addr} {ns : List Int} : Fz K H a ns → Rep K μ L H (.ref a) (.frz ns)
inductive Reps (K : PySem.W.Frag) (μ : Nat → Addr) (L : Nat) (H : Hp) : List V → List W → Prop
  | nil : Reps K μ L H [] []
  | cons {v : V} {vs : List V} {w : W} {ws : List W} : Rep K μ L H v w → Reps K μ L H vs ws → Reps K μ L H (v :: vs) (w :: ws)
end

section
variable {K : PySem.W.Frag} {μ μ' : Nat → Addr} {L L' : Nat} {H H' : Hp}
mutual
theorem Rep.step (tp : ∀ a xs, Tp K H a xs → Tp K H' a xs) (fz : ∀ a ns, Fz K H a ns → Fz K H' a ns) (mu : ∀ i, i < L → μ' i = μ i) (le : L ≤ L') : ∀ {v : V} {w : W}, Rep K μ L H v w → Rep K μ' L' H' v w
  | _, _, .non => .non
  | _, _, .bl b => .bl b
  | _, _, .int i => .int i
  | _, _, .str x => .str x
  | _, _, .ty n => .ty n
  | _, _, .tup h r => .tup (tp _ _ h) (Reps.step tp fz mu le r)
  | _, _, .ls (n := n) h => by
    rw [← mu n h]
    exact .ls (Nat.lt_of_lt_of_le h le)
  | _, _, .frz h => .frz (fz _ _ h)
theorem Reps.step (tp : ∀ a xs, Tp K H a xs → Tp K H' a xs) (fz : ∀ a ns, Fz K H a ns → Fz K H' a ns) (mu : ∀ i, i < L → μ' i = μ i) (le : L ≤ L') : ∀ {vs : List V} {ws : List W}, Reps K μ L H vs ws → Reps K μ' L' H' vs ws
  | _, _, .nil => .nil
  | _, _, .cons r rs => .cons (Rep.step tp fz mu le r) (Reps.step tp fz mu le rs)
end
end

/-! has no ref to the store from L on -/
mutual
def W.low (L : Nat) : W → Bool
  | .tup xs => W.lows L xs
  | .ls n => Nat.blt n L
  | _ => true
def W.lows (L : Nat) : List W → Bool
  | [] => true
  | x :: xs => x.low L && W.lows L xs
end
section
variable {K : PySem.W.Frag} {μ μ' : Nat → Addr} {L L' : Nat} {H : Hp}
/-! refs below M alone: it stands for the value at any store as long -/
mutual
theorem Rep.cut {M : Nat} (mu : ∀ i, i < M → i < L → μ' i = μ i) (hM : M ≤ L') : ∀ {v : V} {w : W}, Rep K μ L H v w → w.low M = true → Rep K μ' L' H v w
  | _, _, .non, _ => .non
  | _, _, .bl b, _ => .bl b
  | _, _, .int i, _ => .int i
  | _, _, .str x, _ => .str x
  | _, _, .ty n, _ => .ty n
  | _, _, .tup h r, e => .tup h (Reps.cut mu hM r (by simpa [W.low] using e))
  | _, _, .ls (n := n) h, e => by
    have e' : n < M := by simpa [W.low, Nat.blt_eq] using e
    rw [← mu n e' h]
    exact .ls (Nat.lt_of_lt_of_le e' hM)
  | _, _, .frz h, _ => .frz h
theorem Reps.cut {M : Nat} (mu : ∀ i, i < M → i < L → μ' i = μ i) (hM : M ≤ L') : ∀ {vs : List V} {ws : List W}, Reps K μ L H vs ws → W.lows M ws = true → Reps K μ' L' H vs ws
  | _, _, .nil, _ => .nil
  | _, _, .cons r rs, e => by
    simp only [W.lows, Bool.and_eq_true] at e
    exact .cons (Rep.cut mu hM r e.1) (Reps.cut mu hM rs e.2)
end
theorem Reps.length : ∀ {vs : List V} {ws : List W}, Reps K μ L H vs ws → vs.length = ws.length
  | _, _, .nil => rfl
  | _, _, .cons _ rs => by simp [Reps.length rs]
theorem Reps.get : ∀ {vs : List V} {ws : List W} {i : Nat} {w : W}, Reps K μ L H vs ws → ws[i]? = some w → ∃ v, vs[i]? = some v ∧ Rep K μ L H v w
  | _, _, _, _, .nil, e => by simp at e
  | _, _, 0, _, .cons r _, e => by simp at e; subst e; exact ⟨_, rfl, r⟩
  | _, _, i + 1, w, .cons _ t, e => by
    obtain ⟨u, h1, h2⟩ := Reps.get (i := i) (w := w) t (by simpa using e)
    exact ⟨u, by simpa using h1, h2⟩
theorem Reps.getV : ∀ {vs : List V} {ws : List W} {i : Nat} {v : V}, Reps K μ L H vs ws → vs[i]? = some v → ∃ w, ws[i]? = some w ∧ Rep K μ L H v w
  | _, _, _, _, .nil, e => by simp at e
  | _, _, 0, _, .cons r _, e => by simp at e; subst e; exact ⟨_, rfl, r⟩
  | _, _, i + 1, w, .cons _ t, e => by
    obtain ⟨u, h1, h2⟩ := Reps.getV (i := i) (v := w) t (by simpa using e)
    exact ⟨u, by simpa using h1, h2⟩
theorem Reps.append : ∀ {vs vs' : List V} {ws ws' : List W}, Reps K μ L H vs ws → Reps K μ L H vs' ws' → Reps K μ L H (vs ++ vs') (ws ++ ws')
  | _, _, _, _, .nil, s => s
  | _, _, _, _, .cons r t, s => .cons r (Reps.append t s)
theorem Reps.take : ∀ {vs : List V} {ws : List W} (n : Nat), Reps K μ L H vs ws → Reps K μ L H (vs.take n) (ws.take n)
  | _, _, 0, _ => .nil
  | _, _, _ + 1, .nil => .nil
  | _, _, n + 1, .cons r t => .cons r (Reps.take n t)
theorem Reps.drop : ∀ {vs : List V} {ws : List W} (n : Nat), Reps K μ L H vs ws → Reps K μ L H (vs.drop n) (ws.drop n)
  | _, _, 0, r => r
  | _, _, _ + 1, .nil => .nil
  | _, _, n + 1, .cons _ t => Reps.drop n t
theorem Reps.set {v : V} {w : W} (r : Rep K μ L H v w) : ∀ {vs : List V} {ws : List W} (i : Nat), Reps K μ L H vs ws → Reps K μ L H (vs.set i v) (ws.set i w)
  | _, _, _, .nil => .nil
  | _, _, 0, .cons _ t => .cons r t
  | _, _, i + 1, .cons q t => .cons q (Reps.set r i t)
theorem Reps.reverse {vs : List V} {ws : List W} (h : Reps K μ L H vs ws) : Reps K μ L H vs.reverse ws.reverse := by
  induction vs generalizing ws with
  | nil => cases h; exact .nil
  | cons v vs ih =>
    cases h with
    | cons r rs =>
      simp only [List.reverse_cons]
      exact (ih rs).append (.cons r .nil)
theorem Reps.ints : ∀ {ns : List Int}, Reps K μ L H (ns.map V.int) (ns.map W.int)
  | [] => .nil
  | n :: ns => .cons (.int n) (Reps.ints (ns := ns))
theorem Reps.ofInts : ∀ {vs : List V} {ns : List Int}, Reps K μ L H vs (ns.map W.int) → vs = ns.map V.int
  | [], [], _ => rfl
  | [], _ :: _, h => by cases h
  | _ :: _, [], h => by cases h
  | v :: vs, n :: ns, h => by
    cases h with
    | cons r rs =>
      cases r
      rw [Reps.ofInts rs]
      rfl
theorem Reps.ofBls : ∀ {vs : List V} {bs : List Bool}, Reps K μ L H vs (bs.map W.bl) → vs = bs.map V.bl
  | [], [], _ => rfl
  | [], _ :: _, h => by cases h
  | _ :: _, [], h => by cases h
  | v :: vs, n :: ns, h => by
    cases h with
    | cons r rs =>
      cases r
      rw [Reps.ofBls rs]
      rfl
end

/-- the store's objects stand at μ -/
def ObR (K : PySem.W.Frag) (μ : Nat → Addr) (L : Nat) (H : Hp) (a : Addr) : Ob → Prop
  | .lst ws => ∃ vs, H a = some (.lst vs) ∧ Reps K μ L H vs ws
structure Sim (K : PySem.W.Frag) (μ : Nat → Addr) (st : Sto) (H : Hp) : Prop where
  at_ : ∀ (i : Nat) (o : Ob), st[i]? = some o → ObR K μ st.length H (μ i) o
  inj : ∀ i j, i < st.length → j < st.length → μ i = μ j → i = j
/-- what comes behind -/
structure Nxt (K : PySem.W.Frag) (μ : Nat → Addr) (L : Nat) (H : Hp) (μ' : Nat → Addr) (L' : Nat) (H' : Hp) : Prop where
  tp : ∀ a xs, Tp K H a xs → Tp K H' a xs
  fz : ∀ a ns, Fz K H a ns → Fz K H' a ns
  mu : ∀ i, i < L → μ' i = μ i
  le : L ≤ L'
  fr : ∀ a o, H a = some o → (∀ i, i < L → a ≠ μ i) → H' a = some o
  ks : ∀ a, H' a = none → H a = none
  nw : ∀ i, L ≤ i → i < L' → H (μ' i) = none
section
variable {K : PySem.W.Frag} {μ μ' μ1 μ2 : Nat → Addr} {L L' L1 L2 : Nat} {H H' H1 H2 : Hp} {st st' : Sto}
theorem Nxt.refl : Nxt K μ L H μ L H := ⟨fun _ _ h => h, fun _ _ h => h, fun _ _ => rfl, Nat.le_refl _, fun _ _ h _ => h, fun _ h => h, fun i h h' => absurd h (Nat.not_le_of_lt h')⟩
theorem Nxt.trans (a : Nxt K μ L H μ1 L1 H1) (b : Nxt K μ1 L1 H1 μ2 L2 H2) : Nxt K μ L H μ2 L2 H2 where
  tp := fun x xs h => b.tp x xs (a.tp x xs h)
  fz := fun x ns h => b.fz x ns (a.fz x ns h)
  mu := fun i h => (b.mu i (Nat.lt_of_lt_of_le h a.le)).trans (a.mu i h)
  le := Nat.le_trans a.le b.le
  fr := fun x o h n => b.fr x o (a.fr x o h n) fun i hi => by
    by_cases hL : i < L
    · rw [a.mu i hL]; exact n i hL
    · intro e
      have := a.nw i (Nat.le_of_not_lt hL) hi
      rw [← e, h] at this; cases this
  ks := fun x h => a.ks x (b.ks x h)
  nw := fun i h h' => by
    by_cases hi : i < L1
    · rw [b.mu i hi]; exact a.nw i h hi
    · exact a.ks _ (b.nw i (Nat.le_of_not_lt hi) h')
theorem Rep.nxt (n : Nxt K μ L H μ' L' H') {v : V} {w : W} (r : Rep K μ L H v w) : Rep K μ' L' H' v w := r.step n.tp n.fz n.mu n.le
theorem Reps.nxt (n : Nxt K μ L H μ' L' H') {v : List V} {w : List W} (r : Reps K μ L H v w) : Reps K μ' L' H' v w := r.step n.tp n.fz n.mu n.le
/-- the part of it that values ask -/
structure Nxw (K : PySem.W.Frag) (μ : Nat → Addr) (L : Nat) (H : Hp) (μ' : Nat → Addr) (L' : Nat) (H' : Hp) : Prop where
  tp : ∀ a xs, Tp K H a xs → Tp K H' a xs
  fz : ∀ a ns, Fz K H a ns → Fz K H' a ns
  mu : ∀ i, i < L → μ' i = μ i
  le : L ≤ L'
theorem Nxt.w (n : Nxt K μ L H μ' L' H') : Nxw K μ L H μ' L' H' := ⟨n.tp, n.fz, n.mu, n.le⟩
theorem Nxw.trans (a : Nxw K μ L H μ1 L1 H1) (b : Nxw K μ1 L1 H1 μ2 L2 H2) : Nxw K μ L H μ2 L2 H2 := ⟨fun x xs h => b.tp x xs (a.tp x xs h), fun x ns h => b.fz x ns (a.fz x ns h), fun i h => (b.mu i (Nat.lt_of_lt_of_le h a.le)).trans (a.mu i h), Nat.le_trans a.le b.le⟩
theorem Rep.nxw (n : Nxw K μ L H μ' L' H') {v : V} {w : W} (r : Rep K μ L H v w) : Rep K μ' L' H' v w := r.step n.tp n.fz n.mu n.le
theorem Reps.nxw (n : Nxw K μ L H μ' L' H') {v : List V} {w : List W} (r : Reps K μ L H v w) : Reps K μ' L' H' v w := r.step n.tp n.fz n.mu n.le
/-- what comes behind, the list at D apart -/
structure NxtD (D : Addr) (K : PySem.W.Frag) (μ : Nat → Addr) (L : Nat) (H : Hp) (μ' : Nat → Addr) (L' : Nat) (H' : Hp) : Prop where
  w : Nxw K μ L H μ' L' H'
  fr : ∀ a o, a ≠ D → H a = some o → (∀ i, i < L → a ≠ μ i) → H' a = some o
  ks : ∀ a, H' a = none → H a = none
  nw : ∀ i, L ≤ i → i < L' → H (μ' i) = none
theorem Nxt.d (n : Nxt K μ L H μ' L' H') (D : Addr) : NxtD D K μ L H μ' L' H' := ⟨n.w, fun a o _ => n.fr a o, n.ks, n.nw⟩
theorem NxtD.trans {D : Addr} (a : NxtD D K μ L H μ1 L1 H1) (b : NxtD D K μ1 L1 H1 μ2 L2 H2) : NxtD D K μ L H μ2 L2 H2 where
  w := a.w.trans b.w
  fr := fun x o hx h n => b.fr x o hx (a.fr x o hx h n) fun i hi => by
    by_cases hL : i < L
    · rw [a.w.mu i hL]; exact n i hL
    · intro e
      have := a.nw i (Nat.le_of_not_lt hL) hi
      rw [← e, h] at this; cases this
  ks := fun x h => a.ks x (b.ks x h)
  nw := fun i h h' => by
    by_cases hi : i < L1
    · rw [b.w.mu i hi]; exact a.nw i h hi
    · exact a.ks _ (b.nw i (Nat.le_of_not_lt hi) h')
/-- .. where D was not there at the start -/
theorem NxtD.nxt {D : Addr} (n : NxtD D K μ L H μ' L' H') (h : H D = none) : Nxt K μ L H μ' L' H' := ⟨n.w.tp, n.w.fz, n.w.mu, n.w.le, fun a o e => n.fr a o (ne_of_none e h) e, n.ks, n.nw⟩
theorem Sim.lstAt (S : Sim K μ st H) {n : Nat} {ws : List W} (e : st[n]? = some (.lst ws)) : ∃ vs, H (μ n) = some (.lst vs) ∧ Reps K μ st.length H vs ws := S.at_ n _ e
theorem lt_of_get {n : Nat} {o : Ob} (e : st[n]? = some o) : n < st.length := (List.getElem?_eq_some_iff.mp e).1
theorem Sim.isL (S : Sim K μ st H) {n : Nat} (h : n < st.length) : ∃ xs, H (μ n) = some (.lst xs) := by
  have e : st[n]? = some st[n] := by simp [h]
  have q := S.at_ n _ e
  cases h0 : st[n] with
  | lst ws => rw [h0] at q; obtain ⟨vs, q, _⟩ := q; exact ⟨vs, q⟩
theorem Tp.new {p : Addr} {o : HO} (h : H p = none) {a : Addr} {xs : List V} (t : Tp K H a xs) : Tp K (upd H p o) a xs := by
  rcases t with t | t
  · exact .inl (by rw [upd_ne (ne_of_none t h)]; exact t)
  · exact .inr t
theorem Fz.new {p : Addr} {o : HO} (h : H p = none) {a : Addr} {ns : List Int} (t : Fz K H a ns) : Fz K (upd H p o) a ns := by
  rcases t with ⟨b, t⟩ | t
  · exact .inl ⟨b, by rw [upd_ne (ne_of_none t h)]; exact t⟩
  · exact .inr t
theorem upd_none {p a : Addr} {o : HO} (h : upd H p o a = none) : H a = none := by
  by_cases e : a = p
  · subst e; rw [upd_same] at h; cases h
  · rw [upd_ne e] at h; exact h
/-- a new object that the store does not hold (a tuple, a thing of the layer's) -/
theorem Nxt.tup {p : Addr} {o : HO} (h : H p = none) : Nxt K μ L H μ L (upd H p o) where
  tp := fun _ _ t => t.new h
  fz := fun _ _ t => t.new h
  mu := fun _ _ => rfl
  le := Nat.le_refl _
  fr := fun a u e _ => by rw [upd_ne (ne_of_none e h)]; exact e
  ks := fun _ e => upd_none e
  nw := fun i h1 h2 => absurd h1 (Nat.not_le_of_lt h2)
theorem ObR.nxt {o : Ob} {i : Nat} (n : Nxt K μ L H μ' L' H') (e : H' (μ i) = H (μ i)) (h : ObR K μ L H (μ i) o) : ObR K μ' L' H' (μ i) o := by
  cases o with
  | lst ws =>
    obtain ⟨vs, h1, h2⟩ := h
    exact ⟨vs, e.trans h1, h2.nxt n⟩
theorem Sim.tup {p : Addr} {o : HO} (S : Sim K μ st H) (h : H p = none) : Sim K μ st (upd H p o) := by
  refine ⟨fun i ob e => ?_, S.inj⟩
  have hne : μ i ≠ p := by
    obtain ⟨xs, q⟩ := S.isL (lt_of_get e)
    exact ne_of_none q h
  exact (S.at_ i ob e).nxt (Nxt.tup h) (upd_ne hne)
/-- a new list at p -/
def muAt (μ : Nat → Addr) (L : Nat) (p : Addr) : Nat → Addr := fun i => if i = L then p else μ i
theorem muAt_lt {p : Addr} {i : Nat} (h : i < L) : muAt μ L p i = μ i := if_neg (Nat.ne_of_lt h)
theorem muAt_eq {p : Addr} : muAt μ L p L = p := if_pos rfl
theorem Nxt.new {p : Addr} {o : HO} (h : H p = none) : Nxt K μ L H (muAt μ L p) (L + 1) (upd H p o) where
  tp := fun _ _ t => t.new h
  fz := fun _ _ t => t.new h
  mu := fun _ hi => muAt_lt hi
  le := Nat.le_succ _
  fr := fun a u e _ => by rw [upd_ne (ne_of_none e h)]; exact e
  ks := fun _ e => upd_none e
  nw := fun i h1 h2 => by
    have : i = L := by omega
    subst this
    rw [muAt_eq]; exact h
theorem Sim.new {p : Addr} {vs : List V} {ws : List W} (S : Sim K μ st H) (h : H p = none) (r : Reps K μ st.length H vs ws) : Sim K (muAt μ st.length p) (st ++ [.lst ws]) (upd H p (.lst vs)) := by
  have N : Nxt K μ st.length H (muAt μ st.length p) (st.length + 1) (upd H p (.lst vs)) := Nxt.new h
  have hl : (st ++ [Ob.lst ws]).length = st.length + 1 := by simp
  have hne : ∀ i, i < st.length → μ i ≠ p := fun i hi => by
    obtain ⟨xs, q⟩ := S.isL hi
    exact ne_of_none q h
  refine ⟨fun i ob e => ?_, fun i j hi hj e => ?_⟩
  · rw [hl]
    by_cases hi : i < st.length
    · rw [List.getElem?_append_left hi] at e
      rw [muAt_lt hi]
      exact (S.at_ i ob e).nxt N (upd_ne (hne i hi))
    · have : i = st.length := by
        have := lt_of_get e
        rw [hl] at this; omega
      subst this
      rw [List.getElem?_append_right (Nat.le_refl _)] at e
      simp at e
      subst e
      rw [muAt_eq]
      exact ⟨vs, upd_same, r.nxt N⟩
  · rw [hl] at hi hj
    by_cases h1 : i < st.length
    · by_cases h2 : j < st.length
      · rw [muAt_lt h1, muAt_lt h2] at e
        exact S.inj i j h1 h2 e
      · have : j = st.length := by omega
        subst this
        rw [muAt_lt h1, muAt_eq] at e
        exact absurd e (hne i h1)
    · have : i = st.length := by omega
      subst this
      by_cases h2 : j < st.length
      · rw [muAt_lt h2, muAt_eq] at e
        exact absurd e.symm (hne j h2)
      · omega
theorem NxtD.put {D : Addr} {vs vs' : List V} (e : H D = some (.lst vs)) : NxtD D K μ L H μ L (upd H D (.lst vs')) where
  w := ⟨fun a xs t => by
    rcases t with t | t
    · refine .inl ?_
      rw [upd_ne]
      · exact t
      · rintro rfl; rw [e] at t; cases t
    · exact .inr t, fun a ns t => by
    rcases t with ⟨o, t⟩ | t
    · refine .inl ⟨o, ?_⟩
      rw [upd_ne]
      · exact t
      · rintro rfl; rw [e] at t; cases t
    · exact .inr t, fun _ _ => rfl, Nat.le_refl _⟩
  fr := fun a o hx h _ => by rw [upd_ne hx]; exact h
  ks := fun a h => upd_none h
  nw := fun i h1 h2 => absurd h1 (Nat.not_le_of_lt h2)
/-- a list that the store does not hold is written -/
theorem Sim.putD {D : Addr} {vs vs' : List V} (S : Sim K μ st H) (e : H D = some (.lst vs)) (hne : ∀ i, i < st.length → μ i ≠ D) : Sim K μ st (upd H D (.lst vs')) := by
  refine ⟨fun i ob q => ?_, S.inj⟩
  have := S.at_ i ob q
  have hD := hne i (lt_of_get q)
  cases ob with
  | lst ws =>
    obtain ⟨us, q1, q2⟩ := this
    exact ⟨us, by rw [upd_ne hD]; exact q1, q2.nxw (NxtD.put (D := D) (μ := μ) (L := st.length) e).w⟩
/-- an object of the store written -/
theorem Nxt.put {n : Nat} {vs vs' : List V} (hn : n < L) (e : H (μ n) = some (.lst vs)) : Nxt K μ L H μ L (upd H (μ n) (.lst vs')) where
  tp := fun a xs t => by
    rcases t with t | t
    · refine .inl ?_
      rw [upd_ne]
      · exact t
      · rintro rfl; rw [e] at t; cases t
    · exact .inr t
  fz := fun a ns t => by
    rcases t with ⟨o, t⟩ | t
    · refine .inl ⟨o, ?_⟩
      rw [upd_ne]
      · exact t
      · rintro rfl; rw [e] at t; cases t
    · exact .inr t
  mu := fun _ _ => rfl
  le := Nat.le_refl _
  fr := fun a o h q => by rw [upd_ne (q n hn)]; exact h
  ks := fun a h => upd_none h
  nw := fun i h1 h2 => absurd h1 (Nat.not_le_of_lt h2)
theorem Sim.put {n : Nat} {ws ws' : List W} {vs vs' : List V} (S : Sim K μ st H) (e : st[n]? = some (.lst ws)) (h : H (μ n) = some (.lst vs)) (r : Reps K μ st.length H vs' ws') : Sim K μ (st.set n (.lst ws')) (upd H (μ n) (.lst vs')) := by
  have hn := lt_of_get e
  have N : Nxt K μ st.length H μ st.length (upd H (μ n) (.lst vs')) := Nxt.put hn h
  refine ⟨fun i ob q => ?_, fun i j hi hj q => ?_⟩
  · rw [List.length_set]
    by_cases hi : n = i
    · subst hi
      rw [List.getElem?_set_self hn] at q
      cases q
      exact ⟨vs', upd_same, r.nxt N⟩
    · rw [List.getElem?_set_ne hi] at q
      refine (S.at_ i ob q).nxt N (upd_ne fun z => hi ?_)
      exact (S.inj i n (lt_of_get q) hn z).symm
  · rw [List.length_set] at hi hj
    exact S.inj i j hi hj q
end

/-- the slots -/
structure EnvR (K : PySem.W.Frag) (μ : Nat → Addr) (L : Nat) (H : Hp) (env : Env') (σ : L2.St) : Prop where
  len : env.length = σ.length
  at_ : ∀ (i : Nat) (w : W), env[i]? = some (some w) → ∃ v, σ[i]? = some (some v) ∧ Rep K μ L H v w
section
variable {K : PySem.W.Frag} {μ μ' : Nat → Addr} {L L' : Nat} {H H' : Hp} {env : Env'} {σ : L2.St}
theorem EnvR.nxt (n : Nxt K μ L H μ' L' H') (e : EnvR K μ L H env σ) : EnvR K μ' L' H' env σ := ⟨e.len, fun i w h => let ⟨v, a, b⟩ := e.at_ i w h; ⟨v, a, b.nxt n⟩⟩
theorem EnvR.nxw (n : Nxw K μ L H μ' L' H') (e : EnvR K μ L H env σ) : EnvR K μ' L' H' env σ := ⟨e.len, fun i w h => let ⟨v, a, b⟩ := e.at_ i w h; ⟨v, a, b.nxw n⟩⟩
theorem EnvR.set {v : V} {w : W} (e : EnvR K μ L H env σ) (r : Rep K μ L H v w) (i : Nat) : EnvR K μ L H (env.set i (some w)) (σ.set i (some v)) := by
  refine ⟨by simp [e.len], fun j u h => ?_⟩
  by_cases hj : i = j
  · subst hj
    by_cases hi : i < env.length
    · rw [List.getElem?_set_self hi] at h
      cases h
      exact ⟨v, List.getElem?_set_self (by rw [← e.len]; exact hi), r⟩
    · rw [List.getElem?_eq_none (by simpa using hi)] at h; cases h
  · rw [List.getElem?_set_ne hj] at h
    obtain ⟨x, a, b⟩ := e.at_ j u h
    exact ⟨x, by rw [List.getElem?_set_ne hj]; exact a, b⟩
theorem EnvR.weak {env' : Env'} (e : EnvR K μ L H env σ) (hl : env'.length = env.length) (h : ∀ (i : Nat) (w : W), env'[i]? = some (some w) → env[i]? = some (some w)) : EnvR K μ L H env' σ :=
  ⟨hl.trans e.len, fun i w q => e.at_ i w (h i w q)⟩
end
end Rx

/-! RxB: readings of mirrors; expressions, operators, tests. -/
namespace Rx
open PySem PySem.Spec PyProof.Rows L2

/-! ### readings -/
/-- what a mirror's answer (a, st') makes of what is wanted -/
def KE (K : PySem.W.Frag) (μ : Nat → Addr) (L : Nat) (H : Hp) (w : W) (st' : Sto) (Q : VK) : Prop :=
  ∀ μ' H' v, Nxt K μ L H μ' st'.length H' → Sim K μ' st' H' → Rep K μ' st'.length H' v w → Q v H'
def KT (K : PySem.W.Frag) (μ : Nat → Addr) (L : Nat) (H : Hp) (b : Bool) (st' : Sto) (Q : Bool → Hp → Prop) : Prop :=
  ∀ μ' H', Nxt K μ L H μ' st'.length H' → Sim K μ' st' H' → Q b H'
def KA (K : PySem.W.Frag) (μ : Nat → Addr) (L : Nat) (H : Hp) (ws : List W) (st' : Sto) (Q : List V → Hp → Prop) : Prop :=
  ∀ μ' H' vs, Nxt K μ L H μ' st'.length H' → Sim K μ' st' H' → Reps K μ' st'.length H' vs ws → Q vs H'

def lE (K : PySem.W.Frag) (m : EX) : TE := fun σ H Q => ∃ μ env st w st', Sim K μ st H ∧ EnvR K μ st.length H env σ ∧ m env st = .ok w st' ∧ KE K μ st.length H w st' Q
def lT (K : PySem.W.Frag) (m : TX) : TT := fun σ H Q => ∃ μ env st b st', Sim K μ st H ∧ EnvR K μ st.length H env σ ∧ m env st = .ok b st' ∧ KT K μ st.length H b st' Q
def lA (K : PySem.W.Frag) (m : AX) : TA := fun σ H Q => ∃ μ env st ws st', Sim K μ st H ∧ EnvR K μ st.length H env σ ∧ m env st = .ok ws st' ∧ KA K μ st.length H ws st' Q
/-- two values, a list of values -/
def lO (K : PySem.W.Frag) (f : W → W → Sto → R W) : R2 := fun x y H Q => ∃ μ st a b w st', Sim K μ st H ∧ Rep K μ st.length H x a ∧ Rep K μ st.length H y b ∧ f a b st = .ok w st' ∧ KE K μ st.length H w st' Q
def lU (K : PySem.W.Frag) (f : W → Sto → R W) : V → Hp → VK → Prop := fun x H Q => ∃ μ st a w st', Sim K μ st H ∧ Rep K μ st.length H x a ∧ f a st = .ok w st' ∧ KE K μ st.length H w st' Q
def lC (K : PySem.W.Frag) (f : FX) : List V → Hp → VK → Prop := fun vs H Q => ∃ μ st ws w st', Sim K μ st H ∧ Reps K μ st.length H vs ws ∧ f ws st = .ok w st' ∧ KE K μ st.length H w st' Q
def lM (K : PySem.W.Frag) (f : W → FX) : V → List V → Hp → VK → Prop := fun x vs H Q => ∃ μ st a ws w st', Sim K μ st H ∧ Rep K μ st.length H x a ∧ Reps K μ st.length H vs ws ∧ f a ws st = .ok w st' ∧ KE K μ st.length H w st' Q

section
variable {K : PySem.W.Frag} {μ μ1 : Nat → Addr} {L L1 : Nat} {H H1 : Hp} {w : W} {st' : Sto} {Q : VK}
theorem KE.mono (n : Nxt K μ L H μ1 L1 H1) (k : KE K μ L H w st' Q) : KE K μ1 L1 H1 w st' Q := fun μ' H' v N S r => k μ' H' v (n.trans N) S r
theorem KT.mono {b : Bool} {Q : Bool → Hp → Prop} (n : Nxt K μ L H μ1 L1 H1) (k : KT K μ L H b st' Q) : KT K μ1 L1 H1 b st' Q := fun μ' H' N S => k μ' H' (n.trans N) S
theorem KA.mono {ws : List W} {Q : List V → Hp → Prop} (n : Nxt K μ L H μ1 L1 H1) (k : KA K μ L H ws st' Q) : KA K μ1 L1 H1 ws st' Q := fun μ' H' vs N S r => k μ' H' vs (n.trans N) S r
/-- the value is given at once -/
theorem KE.here {st : Sto} {v : V} (k : KE K μ st.length H w st Q) (S : Sim K μ st H) (r : Rep K μ st.length H v w) : Q v H := k μ H v Nxt.refl S r
/-- .. a new tuple -/
theorem KE.tup {st : Sto} {vs : List V} {ws : List W} {p : Addr} (k : KE K μ st.length H (.tup ws) st Q) (S : Sim K μ st H) (r : Reps K μ st.length H vs ws) (h : H p = none) : Q (.ref p) (upd H p (.tup vs)) :=
  k μ _ _ (Nxt.tup h) (S.tup h) (.tup (.inl upd_same) (r.nxt (Nxt.tup h)))
/-- .. a new list -/
theorem KE.new {st : Sto} {vs : List V} {ws : List W} {p : Addr} (k : KE K μ st.length H (.ls st.length) (st ++ [.lst ws]) Q) (S : Sim K μ st H) (r : Reps K μ st.length H vs ws) (h : H p = none) : Q (.ref p) (upd H p (.lst vs)) := by
  have hl : (st ++ [Ob.lst ws]).length = st.length + 1 := by simp
  have N : Nxt K μ st.length H (muAt μ st.length p) (st ++ [Ob.lst ws]).length (upd H p (.lst vs)) := by rw [hl]; exact Nxt.new h
  have q : Rep K (muAt μ st.length p) (st ++ [Ob.lst ws]).length (upd H p (.lst vs)) (.ref (muAt μ st.length p st.length)) (.ls st.length) := .ls (by rw [hl]; exact Nat.lt_succ_self _)
  rw [muAt_eq] at q
  exact k _ _ _ N (S.new h r) q
/-- .. a list of the store changed -/
theorem KE.put {st : Sto} {v : V} {vs vs' : List V} {ws ws' : List W} {n : Nat} (k : KE K μ st.length H w (st.set n (.lst ws')) Q) (S : Sim K μ st H) (e : st[n]? = some (.lst ws)) (h : H (μ n) = some (.lst vs)) (r : Reps K μ st.length H vs' ws')
    (rv : Rep K μ st.length (upd H (μ n) (.lst vs')) v w) : Q v (upd H (μ n) (.lst vs')) := by
  have N : Nxt K μ st.length H μ (st.set n (.lst ws')).length (upd H (μ n) (.lst vs')) := by rw [List.length_set]; exact Nxt.put (lt_of_get e) h
  exact k _ _ _ N (S.put e h r) (by rw [List.length_set]; exact rv)
end

/-! ### the context of a body -/
structure In (X : Cx) (N : List Str) (sc : Scope) : Prop where
  n : X.N = N
  s : X.env.scope = sc
  calm : X.calm = true
  nox : X.xe = fun _ _ => False
  nd : N.Nodup
  room : Room 0 X.A
structure InF (X : Cx) (N : List Str) (sc : Scope) : Prop extends In X N sc where
  cel : ∀ x, sc.names.lookup x = some .cell → X.fn x = true
/-- a name that may be stored -/
def Lo (X : Cx) (i : Nat) (x : Str) : Prop := X.N[i]? = some x ∧ L2.Loc X.env.scope x ∧ (X.fn x = true ∨ X.env.scope.names.lookup x = some .local) ∧ X.N.Nodup
def nmOk (N : List Str) (sc : Scope) (i : Nat) (x : Str) : Bool := decide (N[i]? = some x) && (match sc.names.lookup x with
  | some .local => true | some .cell => true | some .free => true | _ => false) && !(x == ("__debug__" : Str)) && !(x == ("__classdict__" : Str))
def glB (sc : Scope) (x : Str) : Bool := match sc.names.lookup x with
  | some .globalImplicit => true
  | _ => false
def locOk (N : List Str) (sc : Scope) (i : Nat) (x : Str) : Bool := decide (N[i]? = some x) && (match sc.names.lookup x with
  | some .local => true | some .cell => true | _ => false)
section
variable {X : Cx} {N : List Str} {sc : Scope}
theorem In.nm (h : In X N sc) {i : Nat} {x : Str} (e : nmOk N sc i x = true) : X.N[i]? = some x ∧ Vis X.env.scope x ∧ (x == ("__debug__" : Str)) = false ∧ (x == ("__classdict__" : Str)) = false := by
  unfold nmOk at e
  simp only [Bool.and_eq_true, decide_eq_true_eq, Bool.not_eq_true'] at e
  obtain ⟨⟨⟨e1, e2⟩, e3⟩, e4⟩ := e
  refine ⟨by rw [h.n]; exact e1, ?_, e3, e4⟩
  rw [h.s]
  split at e2
  · exact .inl (by assumption)
  · exact .inr (.inl (by assumption))
  · exact .inr (.inr (by assumption))
  · cases e2
theorem InF.lo (h : InF X N sc) {i : Nat} {x : Str} (e : locOk N sc i x = true) : Lo X i x := by
  unfold locOk at e
  simp only [Bool.and_eq_true, decide_eq_true_eq] at e
  obtain ⟨e1, e2⟩ := e
  refine ⟨by rw [h.n]; exact e1, ?_⟩
  have hnd : X.N.Nodup := by rw [h.n]; exact h.nd
  unfold L2.Loc
  rw [h.s]
  split at e2
  · exact ⟨.inl (by assumption), .inr (by assumption), hnd⟩
  · exact ⟨.inr (by assumption), .inl (h.cel _ (by assumption)), hnd⟩
  · cases e2
/-- in a comprehension's block -/
theorem In.blk (h : In X N sc) {s : Shared} {H : Hp} {scope : Scope} {C : Addr} {cl : List (Str × Addr)} {fp : List Addr} : In (X.blk s H scope (compEnvC scope cl C X.env) fp) N (relS scope sc) :=
  ⟨h.n, by rw [← h.s]; rfl, h.calm, rfl, h.nd, h.room⟩
def ownOk (N : List Str) (scope : Scope) (i : Nat) (x : Str) : Bool := decide (N[i]? = some x) && (match scope.names.lookup x with
  | some .local => true | some .cell => true | _ => false)
theorem In.loB (h : In X N sc) {s : Shared} {H : Hp} {scope : Scope} {C : Addr} {cl : List (Str × Addr)} {fp : List Addr} {i : Nat} {x : Str} (e : ownOk N scope i x = true) : Lo (X.blk s H scope (compEnvC scope cl C X.env) fp) i x := by
  unfold ownOk at e
  simp only [Bool.and_eq_true, decide_eq_true_eq] at e
  obtain ⟨e1, e2⟩ := e
  have hnd : X.N.Nodup := by rw [h.n]; exact h.nd
  refine ⟨by show X.N[i]? = some x; rw [h.n]; exact e1, ?_⟩
  split at e2
  · rename_i q
    have q2 := lookup_relS_keep (sc := X.env.scope) (by decide) q
    exact ⟨.inl q2, .inr q2, hnd⟩
  · rename_i q
    have q2 := lookup_relS_keep (sc := X.env.scope) (by decide) q
    exact ⟨.inr q2, .inl (by show (scope.names.lookup x == some NameKind.cell) = true; rw [q]; rfl), hnd⟩
  · cases e2
theorem In.gl (h : In X N sc) {x : Str} (e : glB sc x = true) : Gl X x := by
  show X.env.scope.names.lookup x = some .globalImplicit
  rw [h.s]
  unfold glB at e
  split at e
  · assumption
  · cases e
theorem In.passes (h : In X N sc) : PassesOwn (model X.prog X.w) X.A X.env X.xe := by
  rw [h.nox]
  exact PassesOwn.never
theorem In.units (h : In X N sc) : X.A.units + 65 < cLine := by have := h.room.un; omega
end

abbrev RE (X : Cx) (e : Expr) (m : EX) : Prop := PE X e (lE X.K m)
abbrev RT (X : Cx) (e : Expr) (m : TX) : Prop := PT X e (lT X.K m)
abbrev RW' (X : Cx) (e : Expr) (m : TX) : Prop := PW X e (lT X.K m)
abbrev RA (X : Cx) (es : List Expr) (m : AX) : Prop := PA X es (lA X.K m)

section
variable {X : Cx} {e a b c : Expr} {t t' : TE} {pos : Pos}
theorem pe_imp (h : PE X e t) (i : ∀ σ H Q, t' σ H Q → t σ H Q) : PE X e t' := ⟨fun pins s σ H Q I q => h.run pins s σ H Q I (i σ H Q q)⟩
theorem pt_imp {t t' : TT} (h : PT X e t) (i : ∀ σ H Q, t' σ H Q → t σ H Q) : PT X e t' := ⟨fun pins s σ H Q I q => h.run pins s σ H Q I (i σ H Q q)⟩
theorem pw_imp {t t' : TT} (h : PW X e t) (i : ∀ σ H Q, t' σ H Q → t σ H Q) : PW X e t' := ⟨fun wh pins s σ H Q I q => h.run wh pins s σ H Q I (i σ H Q q)⟩
theorem pa_imp {es : List Expr} {t t' : TA} (h : PA X es t) (i : ∀ σ H Q, t' σ H Q → t σ H Q) : PA X es t' := ⟨fun pos pins s σ H Q I q => h.run pos pins s σ H Q I (i σ H Q q)⟩
theorem op_imp {f : Value → Value → Sem Value} {r r' : R2} (h : OpR X f r) (i : ∀ x y H Q, r' x y H Q → r x y H Q) : OpR X f r' := fun pins s σ H x y v u Q I rx ry q => h pins s σ H x y v u Q I rx ry (i x y H Q q)
theorem un_imp {f : Value → Sem Value} {r r' : V → Hp → VK → Prop} (h : UnR X f r) (i : ∀ x H Q, r' x H Q → r x H Q) : UnR X f r' := fun pins s σ H x v Q I rx q => h pins s σ H x v Q I rx (i x H Q q)
theorem call_imp {f : Value} {r r' : List V → Hp → VK → Prop} (h : CallR X f r) (i : ∀ x H Q, r' x H Q → r x H Q) : CallR X f r' := fun pins s σ H vs us Q I rx q => h pins s σ H vs us Q I rx (i vs H Q q)

/-! ### constants, names -/
def cst (w : W) : EX := fun _ st => .ok w st
theorem re_cst {w : W} {v : V} (h : PE X e (tC v)) (hr : ∀ (μ : Nat → Addr) (L : Nat) (H : Hp), Rep X.K μ L H v w) : RE X e (cst w) := pe_imp h fun σ H Q ⟨μ, env, st, w', st', S, E, h, k⟩ => by
  cases h
  exact k.here S (hr _ _ _)
theorem re_int {i : Int} {j pos} : RE X (.Constant (.int i) j pos) (cst (.int i)) := re_cst pe_int fun _ _ _ => .int _
theorem re_bl {i : Bool} {j pos} : RE X (.Constant (.bool i) j pos) (cst (.bl i)) := re_cst pe_bl fun _ _ _ => .bl _
theorem re_non {j pos} : RE X (.Constant .none j pos) (cst .non) := re_cst pe_non fun _ _ _ => .non
theorem re_str {i : Str} {j pos} : RE X (.Constant (.str i) j pos) (cst (.str i)) := re_cst pe_str fun _ _ _ => .str _
def evar (i : Nat) : EX := fun env st => match env[i]? with
  | some (some w) => .ok w st
  | _ => .err
theorem re_var {N : List Str} {sc : Scope} (hX : In X N sc) {i : Nat} {x : Str} (h : nmOk N sc i x = true) : RE X (.Name x pos) (evar i) := by
  obtain ⟨h1, h2, h3, h4⟩ := hX.nm h
  refine pe_imp (pe_var (i := i) h1 h2 h3 h4) fun σ H Q ⟨μ, env, st, w, st', S, E, h, k⟩ => ?_
  unfold evar at h
  split at h
  · cases h
    obtain ⟨v, e1, e2⟩ := E.at_ _ _ (by assumption)
    exact ⟨v, e1, k.here S e2⟩
  · cases h
/-- a type's name as a value -/
theorem re_type {N : List Str} {sc : Scope} (hX : In X N sc) {x : Str} {n : String} (hg : glB sc x = true) (hm : X.mg x = none) (hv : bootBuiltins x = some (.type n)) (hn : x ≠ "__name__" := by decide) (hd : (x == ("__debug__" : Str)) = false := by decide) :
    RE X (.Name x pos) (cst (.ty n)) := re_cst (pe_bltn (v := .ty n) (hX.gl hg) hm hv rfl hn hd) fun _ _ _ => .ty _
/-- a module's constant -/
theorem re_glob {N : List Str} {sc : Scope} (hX : In X N sc) {x : Str} {u : Value} {v : V} {w : W} (hg : glB sc x = true) (hm : X.mg x = some u) (r : RelV v u) (hr : ∀ (μ : Nat → Addr) (L : Nat) (H : Hp), Rep X.K μ L H v w) (hd : (x == ("__debug__" : Str)) = false := by decide) :
    RE X (.Name x pos) (cst w) := re_cst (pe_glob (hX.gl hg) hm r hd) hr

/-! ### operators -/
def eBin (f : W → W → Sto → R W) (ma mb : EX) : EX := fun env st => (ma env st).bind fun x s1 => (mb env s1).bind fun y s2 => f x y s2
def eUn (f : W → Sto → R W) (ma : EX) : EX := fun env st => (ma env st).bind fun x s1 => f x s1
theorem bin_run {f : W → W → Sto → R W} {ma mb : EX} {r : R2} {σ : L2.St} {H : Hp} {Q : VK} (hr : ∀ x y H Q, lO X.K f x y H Q → r x y H Q) (h : lE X.K (eBin f ma mb) σ H Q) :
    lE X.K ma σ H fun x H1 => lE X.K mb σ H1 fun y H2 => r x y H2 Q := by
  obtain ⟨μ, env, st, w, st', S, E, h, k⟩ := h
  obtain ⟨a', s1, h1, h2⟩ := R.bind_ok h
  obtain ⟨b', s2, h3, h4⟩ := R.bind_ok h2
  exact ⟨μ, env, st, a', s1, S, E, h1, fun μ1 H1 v N1 S1 r1 => ⟨μ1, env, s1, b', s2, S1, E.nxt N1, h3, fun μ2 H2 u N2 S2 r2 =>
    hr _ _ _ _ ⟨μ2, s2, a', b', w, st', S2, r1.nxt N2, r2, h4, k.mono (N1.trans N2)⟩⟩⟩
theorem re_op {op : Operator} {f : W → W → Sto → R W} {ma mb : EX} (ho : OpR X (binaryOp op) (lO X.K f)) (ha : RE X a ma) (hb : RE X b mb) : RE X (.BinOp a op b pos) (eBin f ma mb) :=
  pe_imp (pe_op ho ha hb) fun σ H Q h => bin_run (fun _ _ _ _ q => q) h
theorem re_un {op : UnaryOp} {f : W → Sto → R W} {ma : EX} (ho : UnR X (unaryOp op) (lU X.K f)) (ha : RE X a ma) : RE X (.UnaryOp op a pos) (eUn f ma) :=
  pe_imp (pe_un ho ha) fun σ H Q ⟨μ, env, st, w, st', S, E, h, k⟩ => by
    obtain ⟨a', s1, h1, h2⟩ := R.bind_ok h
    exact ⟨μ, env, st, a', s1, S, E, h1, fun μ1 H1 v N1 S1 r1 => ⟨μ1, s1, a', w, st', S1, r1, h2, k.mono N1⟩⟩
theorem re_cmp {op : CmpOp} {f : W → W → Sto → R W} {ma mb : EX} (ho : OpR X (compareOp op) (lO X.K f)) (ha : RE X a ma) (hb : RE X b mb) (hm : behindInMarks op b = false) : RE X (.Compare a [op] [b] pos) (eBin f ma mb) :=
  pe_imp (pe_cmpR ho ha hb hm) fun σ H Q h => bin_run (fun _ _ _ _ q => q) h
/-- a value that is a truth value, as a test -/
def tBl (m : EX) : TX := fun env st => (m env st).bind fun x s1 => match x with
  | .bl b => .ok b s1
  | _ => .err
theorem tBl_run {m : EX} {σ : L2.St} {H : Hp} {Q : Bool → Hp → Prop} (h : lT X.K (tBl m) σ H Q) : lE X.K m σ H fun x H1 => ∃ k, x = .bl k ∧ Q k H1 := by
  obtain ⟨μ, env, st, b, st', S, E, h, k⟩ := h
  obtain ⟨x, s1, h1, h2⟩ := R.bind_ok h
  refine ⟨μ, env, st, x, s1, S, E, h1, fun μ1 H1 v N1 S1 r1 => ?_⟩
  cases x <;> simp only [] at h2 <;> try cases h2
  cases r1
  exact ⟨_, rfl, k _ _ N1 S1⟩
theorem rt_cmp {op : CmpOp} {f : W → W → Sto → R W} {ma mb : EX} (ho : OpR X (compareOp op) (lO X.K f)) (ha : RE X a ma) (hb : RE X b mb) (hm : behindInMarks op b = false) : RT X (.Compare a [op] [b] pos) (tBl (eBin f ma mb)) :=
  pt_imp (pt_cmpR ho ha hb hm) fun σ H Q h => bin_run (fun _ _ _ _ q => q) (tBl_run h)
/-- a value that is a truth value by its kind -/
theorem rt_bl {m : EX} (h : RE X e m) (he : ∀ whole, isTrue e X.env whole = (do let v ← whole; standAt e.pos; holding [v] (truthy v)) := by intro _; rfl) : RT X e (tBl m) :=
  pt_imp (pt_val h he) fun σ H Q h => tBl_run h
/-- a < b < c -/
def eChain (f g : W → W → Sto → R W) (ma mb mc : EX) : EX := fun env st => (ma env st).bind fun x s1 => (mb env s1).bind fun y s2 => (f x y s2).bind fun z s3 => match z with
  | .bl true => (mc env s3).bind fun u s4 => g y u s4
  | .bl false => .ok (.bl false) s3
  | _ => .err
theorem chain_run {f g : W → W → Sto → R W} {ma mb mc : EX} {σ : L2.St} {H : Hp} {Q : VK} (h : lE X.K (eChain f g ma mb mc) σ H Q) : tChain (lO X.K f) (lO X.K g) (lE X.K ma) (lE X.K mb) (lE X.K mc) σ H Q := by
  obtain ⟨μ, env, st, w, st', S, E, h, k⟩ := h
  obtain ⟨a', s1, h1, h2⟩ := R.bind_ok h
  obtain ⟨b', s2, h3, h4⟩ := R.bind_ok h2
  obtain ⟨z, s3, h5, h6⟩ := R.bind_ok h4
  refine ⟨μ, env, st, a', s1, S, E, h1, fun μ1 H1 v N1 S1 r1 => ⟨μ1, env, s1, b', s2, S1, E.nxt N1, h3, fun μ2 H2 u N2 S2 r2 =>
    ⟨μ2, s2, a', b', z, s3, S2, r1.nxt N2, r2, h5, fun μ3 H3 d N3 S3 r3 => ?_⟩⟩⟩
  have hz : ∃ bb, z = .bl bb := by
    cases z with
    | bl bb => exact ⟨bb, rfl⟩
    | _ => cases h6
  obtain ⟨bb, rfl⟩ := hz
  cases r3
  refine ⟨bb, rfl, ?_⟩
  cases bb with
  | true =>
    simp only [if_true]
    obtain ⟨u', s4, h7, h8⟩ := R.bind_ok h6
    exact ⟨μ3, env, s3, u', s4, S3, ((E.nxt N1).nxt N2).nxt N3, h7, fun μ4 H4 q N4 S4 r4 => ⟨μ4, s4, b', u', w, st', S4, (r2.nxt N3).nxt N4, r4, h8, k.mono (((N1.trans N2).trans N3).trans N4)⟩⟩
  | false =>
    simp only [Bool.false_eq_true, if_false]
    cases h6
    exact k _ _ _ ((N1.trans N2).trans N3) S3 (.bl _)
theorem re_chain {op op' : CmpOp} {f g : W → W → Sto → R W} {ma mb mc : EX} (ho : OpR X (compareOp op) (lO X.K f)) (ho' : OpR X (compareOp op') (lO X.K g)) (ha : RE X a ma) (hb : RE X b mb) (hc : RE X c mc)
    (hm : lastMarks [op, op'] [b, c] = false := by with_unfolding_all rfl) : RE X (.Compare a [op, op'] [b, c] pos) (eChain f g ma mb mc) :=
  pe_imp (pe_chain ho ho' ha hb hc hm) fun σ H Q h => chain_run h
theorem rt_chain {op op' : CmpOp} {f g : W → W → Sto → R W} {ma mb mc : EX} (ho : OpR X (compareOp op) (lO X.K f)) (ho' : OpR X (compareOp op') (lO X.K g)) (ha : RE X a ma) (hb : RE X b mb) (hc : RE X c mc)
    (hm : lastMarks [op, op'] [b, c] = false := by with_unfolding_all rfl) : RT X (.Compare a [op, op'] [b, c] pos) (tBl (eChain f g ma mb mc)) :=
  pt_imp (pt_chain ho ho' ha hb hc hm) fun σ H Q h => chain_run (tBl_run h)

/-! ### truth -/
/-- a value's truth -/
def tru (st : Sto) : W → Option Bool
  | .non => some false
  | .bl b => some b
  | .int i => some (i != 0)
  | .str y => if y.length ≤ 100000 then some ((y.length : Int) != 0) else none
  | .tup xs => some (!xs.isEmpty)
  | .ls n => match st[n]? with
    | some (.lst xs) => some (!xs.isEmpty)
    | _ => none
  | .frz ns => some (!ns.isEmpty)
  | .ty _ => none
theorem line_of {n : Nat} (h : n ≤ 100000) : n ≤ sizeLine := Nat.le_trans h (by decide)
theorem line_lt {n : Nat} (h : n < 100000) : n < sizeLine := Nat.lt_of_lt_of_le h (by decide)
theorem Reps.isEmpty {K : PySem.W.Frag} {μ : Nat → Addr} {L : Nat} {H : Hp} {vs : List V} {ws : List W} (r : Reps K μ L H vs ws) : vs.isEmpty = ws.isEmpty := by
  cases r <;> rfl
theorem tru_ok' {K : PySem.W.Frag} {μ : Nat → Addr} {H : Hp} {st : Sto} {v : V} {w : W} {k : Bool} (S : Sim K μ st H) (r : Rep K μ st.length H v w) (h : tru st w = some k) : TruV K v H k := by
  cases r with
  | non => cases h; rfl
  | bl b => cases h; rfl
  | int i => cases h; rfl
  | str y =>
    unfold tru at h
    simp only [] at h
    split at h
    · cases h; exact ⟨line_of (by assumption), rfl⟩
    · cases h
  | ty n => cases h
  | tup t rs =>
    cases h
    exact .inr (.inl ⟨_, t.sq, by rw [rs.isEmpty]⟩)
  | ls hn =>
    unfold tru at h
    simp only [] at h
    split at h
    · cases h
      obtain ⟨vs, h1, h2⟩ := S.lstAt (by assumption)
      exact .inl ⟨vs, .inl (.inl h1), by rw [h2.isEmpty]⟩
    · cases h
  | frz f =>
    cases h
    exact .inl ⟨_, f.sq, by simp⟩
def truR (x : W) (s1 : Sto) : R Bool := match tru s1 x with
  | some b => .ok b s1
  | none => .err
theorem truR_ok {x : W} {s1 s2 : Sto} {b : Bool} (h : truR x s1 = .ok b s2) : tru s1 x = some b ∧ s2 = s1 := by
  unfold truR at h
  split at h
  · cases h; exact ⟨by assumption, rfl⟩
  · cases h
def tTru (m : EX) : TX := fun env st => (m env st).bind truR
theorem rt_tru {m : EX} (h : RE X e m) (he : ∀ whole, isTrue e X.env whole = (do let v ← whole; standAt e.pos; holding [v] (truthy v)) := by intro _; rfl) : RT X e (tTru m) :=
  pt_imp (pt_truth h he) fun σ H Q ⟨μ, env, st, b, st', S, E, h, k⟩ => by
    obtain ⟨x, s1, h1, h2⟩ := R.bind_ok h
    obtain ⟨h3, rfl⟩ := truR_ok h2
    exact ⟨μ, env, st, x, _, S, E, h1, fun μ1 H1 v N1 S1 r1 => ⟨b, tru_ok' S1 r1 h3, k _ _ N1 S1⟩⟩
def tNotM (m : TX) : TX := fun env st => (m env st).bind fun b s1 => .ok (!b) s1
theorem rt_not {m : TX} (h : RT X a m) : RT X (.UnaryOp .Not a pos) (tNotM m) := pt_imp (pt_not h) fun σ H Q ⟨μ, env, st, b, st', S, E, h, k⟩ => by
  obtain ⟨x, s1, h1, h2⟩ := R.bind_ok h
  cases h2
  exact ⟨μ, env, st, x, _, S, E, h1, fun μ1 H1 N1 S1 => k _ _ N1 S1⟩
def tAndM (m n : TX) : TX := fun env st => (m env st).bind fun b s1 => if b = true then n env s1 else .ok false s1
def tOrM (m n : TX) : TX := fun env st => (m env st).bind fun b s1 => if b = true then .ok true s1 else n env s1
variable {rest : List Expr}
theorem rw_and1 {m : TX} (ha : RT X a m) : RW' X (.BoolOp .And [a] pos) m := pw_and1 ha
theorem rw_or1 {m : TX} (ha : RT X a m) : RW' X (.BoolOp .Or [a] pos) m := pw_or1 ha
theorem rw_and {m n : TX} (ha : RT X a m) (hb : RW' X (.BoolOp .And (b :: rest) pos) n) : RW' X (.BoolOp .And (a :: b :: rest) pos) (tAndM m n) :=
  pw_imp (pw_and ha hb) fun σ H Q ⟨μ, env, st, bb, st', S, E, h, k⟩ => by
    obtain ⟨x, s1, h1, h2⟩ := R.bind_ok h
    refine ⟨μ, env, st, x, s1, S, E, h1, fun μ1 H1 N1 S1 => ?_⟩
    cases x with
    | true =>
      simp only [if_true] at h2 ⊢
      exact ⟨μ1, env, s1, bb, st', S1, E.nxt N1, h2, k.mono N1⟩
    | false =>
      simp only [Bool.false_eq_true, if_false] at h2 ⊢
      cases h2
      exact k _ _ N1 S1
theorem rw_or {m n : TX} (ha : RT X a m) (hb : RW' X (.BoolOp .Or (b :: rest) pos) n) : RW' X (.BoolOp .Or (a :: b :: rest) pos) (tOrM m n) :=
  pw_imp (pw_or ha hb) fun σ H Q ⟨μ, env, st, bb, st', S, E, h, k⟩ => by
    obtain ⟨x, s1, h1, h2⟩ := R.bind_ok h
    refine ⟨μ, env, st, x, s1, S, E, h1, fun μ1 H1 N1 S1 => ?_⟩
    cases x with
    | false =>
      simp only [Bool.false_eq_true, if_false] at h2 ⊢
      exact ⟨μ1, env, s1, bb, st', S1, E.nxt N1, h2, k.mono N1⟩
    | true =>
      simp only [if_true] at h2 ⊢
      cases h2
      exact k _ _ N1 S1
/-- .. as values -/
def eAnd (m n : EX) : EX := fun env st => (m env st).bind fun x s1 => (truR x s1).bind fun b s2 => if b = true then n env s2 else .ok x s2
def eOr (m n : EX) : EX := fun env st => (m env st).bind fun x s1 => (truR x s1).bind fun b s2 => if b = true then .ok x s2 else n env s2
def eNot (m : EX) : EX := fun env st => (m env st).bind fun x s1 => (truR x s1).bind fun b s2 => .ok (.bl (!b)) s2
theorem re_one {op} {m : EX} (h : RE X a m) : RE X (.BoolOp op [a] pos) m := pe_one h
theorem re_and {m n : EX} (ha : RE X a m) (hb : RE X (.BoolOp .And (b :: rest) pos) n) : RE X (.BoolOp .And (a :: b :: rest) pos) (eAnd m n) :=
  pe_imp (pe_andT ha hb) fun σ H Q ⟨μ, env, st, w, st', S, E, h, k⟩ => by
    obtain ⟨x, s1, h1, h2⟩ := R.bind_ok h
    obtain ⟨bb, s2, h3, h4⟩ := R.bind_ok h2
    obtain ⟨h5, rfl⟩ := truR_ok h3
    refine ⟨μ, env, st, x, s2, S, E, h1, fun μ1 H1 v N1 S1 r1 => ⟨bb, tru_ok' S1 r1 h5, ?_⟩⟩
    cases bb with
    | true =>
      simp only [if_true] at h4 ⊢
      exact ⟨μ1, env, s2, w, st', S1, E.nxt N1, h4, k.mono N1⟩
    | false =>
      simp only [Bool.false_eq_true, if_false] at h4 ⊢
      cases h4
      exact k _ _ _ N1 S1 r1
theorem re_or {m n : EX} (ha : RE X a m) (hb : RE X (.BoolOp .Or (b :: rest) pos) n) : RE X (.BoolOp .Or (a :: b :: rest) pos) (eOr m n) :=
  pe_imp (pe_orT ha hb) fun σ H Q ⟨μ, env, st, w, st', S, E, h, k⟩ => by
    obtain ⟨x, s1, h1, h2⟩ := R.bind_ok h
    obtain ⟨bb, s2, h3, h4⟩ := R.bind_ok h2
    obtain ⟨h5, rfl⟩ := truR_ok h3
    refine ⟨μ, env, st, x, s2, S, E, h1, fun μ1 H1 v N1 S1 r1 => ⟨bb, tru_ok' S1 r1 h5, ?_⟩⟩
    cases bb with
    | false =>
      simp only [Bool.false_eq_true, if_false] at h4 ⊢
      exact ⟨μ1, env, s2, w, st', S1, E.nxt N1, h4, k.mono N1⟩
    | true =>
      simp only [if_true] at h4 ⊢
      cases h4
      exact k _ _ _ N1 S1 r1
theorem re_not {m : EX} (ha : RE X a m) : RE X (.UnaryOp .Not a pos) (eNot m) :=
  pe_imp (pe_notT ha) fun σ H Q ⟨μ, env, st, w, st', S, E, h, k⟩ => by
    obtain ⟨x, s1, h1, h2⟩ := R.bind_ok h
    obtain ⟨bb, s2, h3, h4⟩ := R.bind_ok h2
    obtain ⟨h5, rfl⟩ := truR_ok h3
    cases h4
    exact ⟨μ, env, st, x, _, S, E, h1, fun μ1 H1 v N1 S1 r1 => ⟨bb, tru_ok' S1 r1 h5, k _ _ _ N1 S1 (.bl _)⟩⟩
def eIf (c : TX) (m n : EX) : EX := fun env st => (c env st).bind fun b s1 => if b = true then m env s1 else n env s1
theorem re_if {c : Expr} {mc : TX} {m n : EX} (hc : RT X c mc) (ha : RE X a m) (hb : RE X b n) : RE X (.IfExp c a b pos) (eIf mc m n) :=
  pe_imp (pe_ifExp hc ha hb) fun σ H Q ⟨μ, env, st, w, st', S, E, h, k⟩ => by
    obtain ⟨x, s1, h1, h2⟩ := R.bind_ok h
    refine ⟨μ, env, st, x, s1, S, E, h1, fun μ1 H1 N1 S1 => ?_⟩
    cases x with
    | true =>
      simp only [if_true] at h2 ⊢
      exact ⟨μ1, env, s1, w, st', S1, E.nxt N1, h2, k.mono N1⟩
    | false =>
      simp only [Bool.false_eq_true, if_false] at h2 ⊢
      exact ⟨μ1, env, s1, w, st', S1, E.nxt N1, h2, k.mono N1⟩

/-! ### argument lists, displays, calls by value -/
/-- no star -/
def Pl (e : Expr) : Prop := ∀ (es : List Expr) (env : Env), starEach (e :: es) env = (false, eval e env) :: starEach es env
def aNil : AX := fun _ st => .ok [] st
def aCons (m : EX) (n : AX) : AX := fun env st => (m env st).bind fun x s1 => (n env s1).bind fun xs s2 => .ok (x :: xs) s2
variable {es : List Expr}
theorem ra_nil : RA X [] aNil := pa_imp pa_nil fun σ H Q ⟨μ, env, st, w, st', S, E, h, k⟩ => by
  cases h
  exact k _ _ _ Nxt.refl S .nil
theorem ra_cons {m : EX} {n : AX} (ha : RE X a m) (hr : RA X es n) (hs : Pl a := by exact fun _ _ => rfl) : RA X (a :: es) (aCons m n) :=
  pa_imp (pa_cons ha hr (hs es X.env)) fun σ H Q ⟨μ, env, st, w, st', S, E, h, k⟩ => by
    obtain ⟨x, s1, h1, h2⟩ := R.bind_ok h
    obtain ⟨xs, s2, h3, h4⟩ := R.bind_ok h2
    cases h4
    exact ⟨μ, env, st, x, s1, S, E, h1, fun μ1 H1 v N1 S1 r1 => ⟨μ1, env, s1, xs, _, S1, E.nxt N1, h3, fun μ2 H2 vs N2 S2 r2 => k _ _ _ (N1.trans N2) S2 (.cons (r1.nxt N2) r2)⟩⟩
def eTup (n : AX) : EX := fun env st => (n env st).bind fun xs s1 => if xs.length ≤ 100000 then .ok (.tup xs) s1 else .err
def eLst (n : AX) : EX := fun env st => (n env st).bind fun xs s1 => if xs.length ≤ 100000 then .ok (.ls s1.length) (s1 ++ [.lst xs]) else .err
theorem re_tup {n : AX} {x1} (h : RA X es n) : RE X (.Tuple es x1 pos) (eTup n) := pe_imp (pe_tup h) fun σ H Q ⟨μ, env, st, w, st', S, E, h, k⟩ => by
  obtain ⟨xs, s1, h1, h2⟩ := R.bind_ok h
  split at h2
  · rename_i hz
    cases h2
    exact ⟨μ, env, st, xs, _, S, E, h1, fun μ1 H1 vs N1 S1 r1 => ⟨by rw [r1.length]; exact line_of hz, fun p hp => (k.mono N1).tup S1 r1 hp⟩⟩
  · cases h2
theorem re_lst {n : AX} (h : RA X es n) : RE X (.List es pos) (eLst n) := pe_imp (pe_lst h) fun σ H Q ⟨μ, env, st, w, st', S, E, h, k⟩ => by
  obtain ⟨xs, s1, h1, h2⟩ := R.bind_ok h
  split at h2
  · rename_i hz
    cases h2
    exact ⟨μ, env, st, xs, _, S, E, h1, fun μ1 H1 vs N1 S1 r1 => ⟨by rw [r1.length]; exact line_of hz, fun p hp => (k.mono N1).new S1 r1 hp⟩⟩
  · cases h2
def eCall (f : FX) (n : AX) : EX := fun env st => (n env st).bind fun xs s1 => f xs s1
theorem call_run {f : FX} {n : AX} {σ : L2.St} {H : Hp} {Q : VK} (h : lE X.K (eCall f n) σ H Q) : lA X.K n σ H fun vs H1 => lC X.K f vs H1 Q := by
  obtain ⟨μ, env, st, w, st', S, E, h, k⟩ := h
  obtain ⟨xs, s1, h1, h2⟩ := R.bind_ok h
  exact ⟨μ, env, st, xs, s1, S, E, h1, fun μ1 H1 vs N1 S1 r1 => ⟨μ1, s1, xs, w, st', S1, r1, h2, k.mono N1⟩⟩
variable {x : Str} {p : Pos}
/-- f(e, ..), f a built-in function -/
theorem re_callB {N : List Str} {sc : Scope} (hX : In X N sc) {f : FX} {n : AX} {id : String} (hc : CallR X (.builtin id) (lC X.K f)) (hg : glB sc x = true) (hm : X.mg x = none) (hv : bootBuiltins x = some (.builtin id)) (ha : RA X (a :: es) n) (hn : x ≠ "__name__" := by decide) (hdb : (x == ("__debug__" : Str)) = false := by decide)
    (he : starEach (a :: es) X.env = (false, eval a X.env) :: starEach es X.env := by rfl) (hpl : (backTo pos (starEach es X.env)).any (·.1) = false := by rfl) : RE X (.Call (.Name x p) (a :: es) [] pos) (eCall f n) :=
  pe_imp (pe_callB hc (hX.gl hg) hm hv ha hn hdb he hpl) fun σ H Q h => call_run h
/-- T(e, ..), T a built-in type -/
theorem re_callTy {N : List Str} {sc : Scope} (hX : In X N sc) {f : FX} {n : AX} {T : String} (hc : CallR X (.type T) (lC X.K f)) (hg : glB sc x = true) (hm : X.mg x = none) (hv : bootBuiltins x = some (.type T)) (ha : RA X (a :: es) n) (hn : x ≠ "__name__" := by decide) (hdb : (x == ("__debug__" : Str)) = false := by decide)
    (he : starEach (a :: es) X.env = (false, eval a X.env) :: starEach es X.env := by rfl) (hpl : (backTo pos (starEach es X.env)).any (·.1) = false := by rfl) : RE X (.Call (.Name x p) (a :: es) [] pos) (eCall f n) :=
  pe_imp (pe_callTy hc (hX.gl hg) hm hv ha hn hdb he hpl) fun σ H Q h => call_run h
/-- f(e, ..), f a module's name for a built-in function -/
theorem re_callBfun {N : List Str} {sc : Scope} (hX : In X N sc) {f : FX} {n : AX} {id : String} (hc : CallR X (.builtin id) (lC X.K f)) (hg : glB sc x = true) (hm : X.mg x = some (.builtin id)) (ha : RA X (a :: es) n) (hdb : (x == ("__debug__" : Str)) = false := by decide)
    (he : starEach (a :: es) X.env = (false, eval a X.env) :: starEach es X.env := by rfl) (hpl : (backTo pos (starEach es X.env)).any (·.1) = false := by rfl) : RE X (.Call (.Name x p) (a :: es) [] pos) (eCall f n) :=
  pe_imp (pe_callBfun hc (hX.gl hg) hm ha hdb he hpl) fun σ H Q h => call_run h
end
end Rx

/-! RxC: operators, comparisons, subscripts, built-in functions, by the mirrors' values. -/
namespace Rx
open PySem PySem.Spec PyProof.Rows L2

section
variable {X : Cx}
theorem rep_int {K : PySem.W.Frag} {μ : Nat → Addr} {L : Nat} {H : Hp} {v : V} {i : Int} (r : Rep K μ L H v (.int i)) : v = .int i := by cases r; rfl
theorem rep_bl {K : PySem.W.Frag} {μ : Nat → Addr} {L : Nat} {H : Hp} {v : V} {i : Bool} (r : Rep K μ L H v (.bl i)) : v = .bl i := by cases r; rfl
theorem rep_str {K : PySem.W.Frag} {μ : Nat → Addr} {L : Nat} {H : Hp} {v : V} {i : Str} (r : Rep K μ L H v (.str i)) : v = .str i := by cases r; rfl
theorem rep_ls {K : PySem.W.Frag} {μ : Nat → Addr} {L : Nat} {H : Hp} {v : V} {n : Nat} (r : Rep K μ L H v (.ls n)) : v = .ref (μ n) ∧ n < L := by cases r; exact ⟨rfl, by assumption⟩
theorem rep_tup {K : PySem.W.Frag} {μ : Nat → Addr} {L : Nat} {H : Hp} {v : V} {ws : List W} (r : Rep K μ L H v (.tup ws)) : ∃ a vs, v = .ref a ∧ Tp K H a vs ∧ Reps K μ L H vs ws := by cases r; exact ⟨_, _, rfl, by assumption, by assumption⟩
theorem rep_frz {K : PySem.W.Frag} {μ : Nat → Addr} {L : Nat} {H : Hp} {v : V} {ns : List Int} (r : Rep K μ L H v (.frz ns)) : ∃ a, v = .ref a ∧ Fz K H a ns := by cases r; exact ⟨_, rfl, by assumption⟩
theorem rep_non {K : PySem.W.Frag} {μ : Nat → Addr} {L : Nat} {H : Hp} {v : V} (r : Rep K μ L H v .non) : v = .non := by cases r; rfl
theorem rep_ty {K : PySem.W.Frag} {μ : Nat → Addr} {L : Nat} {H : Hp} {v : V} {n : String} (r : Rep K μ L H v (.ty n)) : v = .ty n := by cases r; rfl

/-! ### whole numbers -/
def fInt (g : Int → Int → R Int) : W → W → Sto → R W
  | .int i, .int j, st => match g i j with
    | .ok k _ => .ok (.int k) st
    | .err => .err
  | _, _, _ => .err
def intOk (C : Int → Int → Bool) (g : Int → Int → Int) : Int → Int → R Int := fun i j => if C i j = true then .ok (g i j) [] else .err
theorem fInt_run {C : Int → Int → Bool} {g : Int → Int → Int} {K : PySem.W.Frag} {x y : V} {H : Hp} {Q : VK} (h : lO K (fInt (intOk C g)) x y H Q) : ∃ i j, x = .int i ∧ y = .int j ∧ C i j = true ∧ Q (.int (g i j)) H := by
  obtain ⟨μ, st, a, b, w, st', S, ra, rb, e, k⟩ := h
  cases a with
  | int i =>
    cases b with
    | int j =>
      have := rep_int ra; subst this
      have := rep_int rb; subst this
      by_cases hc : C i j = true
      · have e' : R.ok (W.int (g i j)) st = R.ok w st' := by
          rw [← e]
          simp [fInt, intOk, hc]
        cases e'
        exact ⟨i, j, rfl, rfl, hc, k.here S (.int _)⟩
      · simp [fInt, intOk, hc] at e
    | _ => cases e
  | _ => cases e
/-- a comparison of whole numbers -/
def fCmp (g : Int → Int → Bool) : W → W → Sto → R W
  | .int i, .int j, st => .ok (.bl (g i j)) st
  | _, _, _ => .err
theorem fCmp_run {g : Int → Int → Bool} {K : PySem.W.Frag} {x y : V} {H : Hp} {Q : VK} (h : lO K (fCmp g) x y H Q) : ∃ i j, x = .int i ∧ y = .int j ∧ Q (.bl (g i j)) H := by
  obtain ⟨μ, st, a, b, w, st', S, ra, rb, e, k⟩ := h
  cases a with
  | int i =>
    cases b with
    | int j =>
      have := rep_int ra; subst this
      have := rep_int rb; subst this
      cases e
      exact ⟨i, j, rfl, rfl, k.here S (.bl _)⟩
    | _ => cases e
  | _ => cases e
def ltI (i j : Int) : Bool := decide (i < j)
def leI (i j : Int) : Bool := decide (i ≤ j)
def gtI (i j : Int) : Bool := decide (j < i)
def geI (i j : Int) : Bool := decide (j ≤ i)
theorem o_lt : OpR X (compareOp .Lt) (lO X.K (fCmp ltI)) := op_imp op_lt fun _ _ _ _ h => fCmp_run h
theorem o_le : OpR X (compareOp .LtE) (lO X.K (fCmp leI)) := op_imp op_le fun _ _ _ _ h => fCmp_run h
theorem o_gt : OpR X (compareOp .Gt) (lO X.K (fCmp gtI)) := op_imp op_gt fun _ _ _ _ h => fCmp_run h
theorem o_ge : OpR X (compareOp .GtE) (lO X.K (fCmp geI)) := op_imp op_ge fun _ _ _ _ h => fCmp_run h

def yesC : Int → Int → Bool := fun _ _ => true
def small63 (i : Int) : Bool := Nat.blt i.natAbs 9223372036854775808
def bigOk (i : Int) : Bool := Nat.blt i.natAbs (2 ^ 9000)
def mulC : Int → Int → Bool := fun i j => small63 i || (small63 j || (bigOk i && bigOk j))
def divC : Int → Int → Bool := fun _ j => (j != 0) && (small63 j || bigOk j)
def modC : Int → Int → Bool := fun _ j => j != 0
def powC : Int → Int → Bool := fun i j => decide (0 ≤ j) && (decide (j ≤ 1000) && small63 i)
theorem blt_lt {a b : Nat} (h : Nat.blt a b = true) : a < b := by
  have := Nat.le_of_ble_eq_true (show Nat.ble (a + 1) b = true from h)
  omega
theorem small63_lt {i : Int} (h : small63 i = true) : i.natAbs < 2 ^ 63 := by
  have := blt_lt h
  omega
theorem bigOk_lt {i : Int} (h : bigOk i = true) : i.natAbs < 2 ^ 9000 := blt_lt h
theorem mulC_ok {i j : Int} (h : mulC i j = true) : IntMulOk i j := by
  unfold mulC at h
  rcases Bool.or_eq_true_iff.mp h with h | h
  · have := small63_lt h
    exact CMul.ok (.inl ⟨by omega, by omega⟩)
  · rcases Bool.or_eq_true_iff.mp h with h | h
    · have := small63_lt h
      exact CMul.ok (.inr ⟨by omega, by omega⟩)
    · obtain ⟨h1, h2⟩ := Bool.and_eq_true_iff.mp h
      exact CMulW.ok (wide_mul (bigOk_lt h1) (bigOk_lt h2) (by decide) (by decide) (by decide))
theorem divC_ok {i j : Int} (h : divC i j = true) : j ≠ 0 ∧ j.natAbs.log2 < 9000 := by
  unfold divC at h
  obtain ⟨h1, h2⟩ := Bool.and_eq_true_iff.mp h
  refine ⟨by simpa using h1, ?_⟩
  rcases Bool.or_eq_true_iff.mp h2 with h | h
  · exact Nat.lt_trans (PySem.Flt.log2_lt_of (k := 63) (by decide) (small63_lt h)) (by decide)
  · exact PySem.Flt.log2_lt_of (by decide) (bigOk_lt h)
theorem op_fdivA : OpR X (binaryOp .FloorDiv) (rI (fun _ j => j ≠ 0 ∧ j.natAbs.log2 < 9000) fun i j => .int (i.fdiv j)) := opI fun i j _ _ _ _ _ hc q => floordiv_int hc.1 q (.inl (PyProof.noPylong_of_log2 hc.2))
theorem op_mulA : OpR X (binaryOp .Mult) (rI (fun i j => IntMulOk i j) fun i j => .int (i * j)) := opI fun _ _ _ _ _ _ _ hc q => mul_int q hc
def fSub := fInt (intOk yesC (· - ·))
def fDiv := fInt (intOk divC Int.fdiv)
def fMod := fInt (intOk modC Int.fmod)
def fPow := fInt (intOk powC fun i j => i ^ j.toNat)
def fShl := fInt (intOk powC fun i j => i * 2 ^ j.toNat)
theorem o_sub : OpR X (binaryOp .Sub) (lO X.K fSub) := op_imp op_sub fun _ _ _ _ h => by
  obtain ⟨i, j, e1, e2, _, q⟩ := fInt_run h
  exact ⟨i, j, e1, e2, q⟩
theorem o_div : OpR X (binaryOp .FloorDiv) (lO X.K fDiv) := op_imp op_fdivA fun _ _ _ _ h => by
  obtain ⟨i, j, e1, e2, c, q⟩ := fInt_run h
  exact ⟨i, j, e1, e2, divC_ok c, q⟩
theorem o_mod : OpR X (binaryOp .Mod) (lO X.K fMod) := op_imp op_modN fun _ _ _ _ h => by
  obtain ⟨i, j, e1, e2, c, q⟩ := fInt_run h
  exact ⟨i, j, e1, e2, by simpa [modC] using c, q⟩
theorem powC_ok {i j : Int} (c : powC i j = true) : CPow i j := by
  unfold powC at c
  simp only [Bool.and_eq_true, decide_eq_true_eq] at c
  have := small63_lt c.2.2
  exact ⟨c.1, by omega, by omega⟩
theorem o_pow : OpR X (binaryOp .Pow) (lO X.K fPow) := op_imp op_pow fun _ _ _ _ h => by
  obtain ⟨i, j, e1, e2, c, q⟩ := fInt_run h
  exact ⟨i, j, e1, e2, powC_ok c, q⟩
theorem o_shl : OpR X (binaryOp .LShift) (lO X.K fShl) := op_imp op_shl fun _ _ _ _ h => by
  obtain ⟨i, j, e1, e2, c, q⟩ := fInt_run h
  exact ⟨i, j, e1, e2, powC_ok c, q⟩
def fNeg : W → Sto → R W
  | .int i, st => .ok (.int (-i)) st
  | _, _ => .err
theorem o_neg : UnR X (unaryOp .USub) (lU X.K fNeg) := un_imp un_neg fun x H Q ⟨μ, st, a, w, st', S, ra, e, k⟩ => by
  cases a with
  | int i =>
    have := rep_int ra; subst this
    cases e
    exact ⟨i, rfl, k.here S (.int _)⟩
  | _ => cases e

/-! ### + -/
def fAdd : W → W → Sto → R W
  | .int i, .int j, st => .ok (.int (i + j)) st
  | .str a, .str b, st => if a.length + b.length ≤ 100000 then .ok (.str (a ++ b)) st else .err
  | .tup xs, .tup ys, st => if xs.length + ys.length ≤ 100000 then .ok (.tup (xs ++ ys)) st else .err
  | .ls n, .ls m, st => match st[n]?, st[m]? with
    | some (.lst xs), some (.lst ys) => if xs.length + ys.length ≤ 100000 then .ok (.ls st.length) (st ++ [.lst (xs ++ ys)]) else .err
    | _, _ => .err
  | _, _, _ => .err
theorem o_add : OpR X (binaryOp .Add) (lO X.K fAdd) := op_imp ((op_add.or op_add_str).or (op_catA.or op_cat)) fun x y H Q ⟨μ, st, a, b, w, st', S, ra, rb, e, k⟩ => by
  cases a with
  | int i =>
    cases b with
    | int j =>
      have := rep_int ra; subst this
      have := rep_int rb; subst this
      cases e
      exact .inl (.inl ⟨i, j, rfl, rfl, k.here S (.int _)⟩)
    | _ => cases e
  | str i =>
    cases b with
    | str j =>
      have := rep_str ra; subst this
      have := rep_str rb; subst this
      simp only [fAdd] at e
      split at e
      · cases e
        exact .inl (.inr ⟨i, j, rfl, rfl, line_of (by assumption), k.here S (.str _)⟩)
      · cases e
    | _ => cases e
  | tup xs =>
    cases b with
    | tup ys =>
      obtain ⟨a1, vs, rfl, t1, r1⟩ := rep_tup ra
      obtain ⟨a2, us, rfl, t2, r2⟩ := rep_tup rb
      simp only [fAdd] at e
      split at e
      · rename_i hz
        cases e
        refine .inr (.inl ⟨a1, a2, vs, us, rfl, rfl, t1.sq, t2.sq, by rw [r1.length, r2.length]; exact line_of hz, fun h1 => ?_, fun h1 h2 => ?_, fun h1 h2 p hp => ?_⟩)
        · subst h1
          cases r1
          exact k.here S (.tup t2 r2)
        · subst h2
          cases r2
          rw [List.append_nil] at k
          exact k.here S (.tup t1 r1)
        · exact k.tup S (r1.append r2) hp
      · cases e
    | _ => cases e
  | ls n =>
    cases b with
    | ls m =>
      obtain ⟨rfl, h1⟩ := rep_ls ra
      obtain ⟨rfl, h2⟩ := rep_ls rb
      simp only [fAdd] at e
      split at e
      · rename_i xs ys e1 e2
        split at e
        · rename_i hz
          cases e
          obtain ⟨vs, q1, r1⟩ := S.lstAt e1
          obtain ⟨us, q2, r2⟩ := S.lstAt e2
          exact .inr (.inr ⟨_, _, vs, us, rfl, rfl, q1, q2, by rw [r1.length, r2.length]; exact line_of hz, fun p hp => k.new S (r1.append r2) hp⟩)
        · cases e
      · cases e
    | _ => cases e
  | _ => cases e

/-! ### * -/
def repW (k : Nat) (xs : List W) : List W := (List.replicate k xs).flatten
def fMul : W → W → Sto → R W
  | .int i, .int j, st => if mulC i j = true then .ok (.int (i * j)) st else .err
  | .ls n, .int j, st => match st[n]? with
    | some (.lst xs) => if 0 ≤ j ∧ j ≤ 1000 ∧ xs.length ≤ 1000 then .ok (.ls st.length) (st ++ [.lst (repW j.toNat xs)]) else .err
    | _ => .err
  | .tup xs, .int j, st => if 1 ≤ j ∧ j ≤ 1000 ∧ xs.length ≤ 1000 ∧ xs ≠ [] then .ok (.tup (repW j.toNat xs)) st else .err
  | _, _, _ => .err
theorem Reps.rep {K : PySem.W.Frag} {μ : Nat → Addr} {L : Nat} {H : Hp} {vs : List V} {ws : List W} (h : Reps K μ L H vs ws) : ∀ k : Nat, Reps K μ L H (List.replicate k vs).flatten (repW k ws)
  | 0 => .nil
  | k + 1 => by
    unfold repW
    simp only [List.replicate_succ, List.flatten_cons]
    exact h.append (h.rep k)
theorem tuple_mul1 (l : Addr) (items : Array Value) (n : Nat) (dd : Option Addr) (sl : Array (Option Value)) (u : Tok) :
    Meets (Builtin.«tuple.__mul__» ⟨[.ref l, .int 1 u], []⟩) (fun _ R s => s.heap.get? l = some { cls := .type "tuple", dict := dd, data := .seq items n, slots := sl } ∧
      R (.ok (.ret (Value.ref l))) s) :=
  .of_wp fun prog w A R s h => by
    obtain ⟨hp, g, d, tk, os⟩ := s
    obtain ⟨hl, h⟩ := h
    have f1 := AutoSeq1.idx_int
    have c0 : (decide ((1 : Int) < -(2 ^ 63)) || decide ((1 : Int) ≥ 2 ^ 63)) = false := by decide
    have c1 : (items.isEmpty || (1 : Int) == 1) = true := by simp
    wp_walk using wpAny_loadPart' hl
    repeat (first
      | (refine wpAny_ite_false (decide_eq_false (by rw [c0]; exact Bool.false_ne_true)) ?_; wp_walk using wpAny_loadPart' hl)
      | (refine wpAny_ite_true (decide_eq_true (by rw [c1])) ?_; wp_walk using wpAny_loadPart' hl))
    exact ⟨_, rfl, h⟩
def rRep1 (K : PySem.W.Frag) : R2 := fun x y H Q => ∃ l xs, x = .ref l ∧ y = .int 1 ∧ SqT K H l xs ∧ xs ≠ [] ∧ Q (.ref l) H
theorem op_rep1 : OpR X (binaryOp .Mult) (rRep1 X.K) := by
  intro pins s σ H x y v u Q I rx ry h
  obtain ⟨l, xs, rfl, rfl, hT, hne, q⟩ := h
  cases rx
  obtain ⟨t, rfl⟩ := ry
  obtain ⟨its, r, ⟨⟨cls, dd, data, sl⟩, ho, hc, n, hd⟩, hs⟩ := I.tuple hT
  simp only at hc hd
  subst hc hd
  refine wpAny_binaryOp_repeat_ref (T := "tuple") (U := "int") (by decide) ⟨_, ho, rfl⟩ (fun s' => typeIs_int s' 1 t) noFill_tuple_mul F.fills_int_mul F.slot_int_rmul repeat_tuple F.slot_int_index.lookup
    (call_meets F.slot_int_rmul (typeIs_int s 1 t) F.entry_int_rmul (F.args_int_rmul_2 _ _) (int_rmul_tuple 1 t l its.toArray n dd sl)
      ⟨ho, rfl, ⟨_, ho, rfl⟩, call_meets F.slot_tuple_mul ⟨_, ho, rfl⟩ F.entry_tuple_mul (F.args_tuple_mul_2 _ _) (tuple_mul1 l its.toArray n dd sl t) ⟨ho, ?_⟩⟩)
  exact ⟨.ref l, H, I, rfl, q⟩
theorem o_mul : OpR X (binaryOp .Mult) (lO X.K fMul) := op_imp ((op_mulA.or op_rep).or (op_repT.or op_rep1)) fun x y H Q ⟨μ, st, a, b, w, st', S, ra, rb, e, k⟩ => by
  cases a with
  | int i =>
    cases b with
    | int j =>
      have := rep_int ra; subst this
      have := rep_int rb; subst this
      simp only [fMul] at e
      split at e
      · rename_i hc
        cases e
        exact .inl (.inl ⟨i, j, rfl, rfl, mulC_ok hc, k.here S (.int _)⟩)
      · cases e
    | _ => cases e
  | ls n =>
    cases b with
    | int j =>
      obtain ⟨rfl, h1⟩ := rep_ls ra
      have := rep_int rb; subst this
      simp only [fMul] at e
      split at e
      · rename_i xs e1
        split at e
        · rename_i hz
          cases e
          obtain ⟨vs, q1, r1⟩ := S.lstAt e1
          refine .inl (.inr ⟨_, j, vs, rfl, rfl, q1, by omega, by omega, ?_, fun p hp => k.new S (r1.rep _) hp⟩)
          rw [r1.length, sizeLine_eq]
          have : xs.length * j.toNat ≤ 1000 * 1000 := Nat.mul_le_mul hz.2.2 (by omega)
          omega
        · cases e
      · cases e
    | _ => cases e
  | tup xs =>
    cases b with
    | int j =>
      obtain ⟨a1, vs, rfl, t1, r1⟩ := rep_tup ra
      have := rep_int rb; subst this
      simp only [fMul] at e
      split at e
      · rename_i hz
        cases e
        have hne : vs ≠ [] := fun z => by
          subst z
          cases r1
          exact hz.2.2.2 rfl
        by_cases h1 : j = 1
        · subst h1
          refine .inr (.inr ⟨a1, vs, rfl, rfl, t1.sq, hne, k.here S (.tup t1 ?_)⟩)
          have := r1.rep 1
          simpa using this
        · exact .inr (.inl ⟨a1, j, vs, rfl, rfl, t1.sq, hne, by omega, hz.2.1, by rw [r1.length]; exact hz.2.2.1, fun p hp => k.tup S (r1.rep _) hp⟩)
      · cases e
    | _ => cases e
  | _ => cases e

/-! ### data: ==, in -/
/-- a value as plain data, n deep -/
def datAll (f : W → Option PyData) : List W → Option (List PyData)
  | [] => some []
  | x :: xs => match f x, datAll f xs with
    | some d, some ds => some (d :: ds)
    | _, _ => none
def dat (st : Sto) : Nat → W → Option PyData
  | 0, _ => none
  | n + 1, w => match w with
    | .non => some .none
    | .bl b => some (.bool b)
    | .int i => some (.int i)
    | .str x => if PyData.strOk x = true then some (.str x) else none
    | .ty _ => none
    | .tup xs => (datAll (dat st n) xs).map .tuple
    | .ls k => match st[k]? with
      | some (.lst xs) => (datAll (dat st n) xs).map .list
      | _ => none
    | .frz ns => some (.list (ns.map .int))
theorem datAll_len {f : W → Option PyData} : ∀ {xs : List W} {ds : List PyData}, datAll f xs = some ds → xs.length = ds.length
  | [], ds, h => by cases h; rfl
  | x :: xs, ds, h => by
    unfold datAll at h
    split at h
    · cases h
      simp [datAll_len (by assumption)]
    · cases h
theorem dpInts {K : PySem.W.Frag} {H : Hp} : ∀ ns : List Int, DpAll K H (ns.map V.int) (ns.map PyData.int)
  | [] => .nil
  | n :: ns => .cons (.int n) (dpInts ns)
theorem dat_dp {K : PySem.W.Frag} {μ : Nat → Addr} {H : Hp} {st : Sto} (S : Sim K μ st H) : ∀ (n : Nat) {v : V} {w : W} {d : PyData}, Rep K μ st.length H v w → dat st n w = some d → Dp K H v d
  | 0, _, _, _, _, h => by cases h
  | n + 1, v, w, d, r, h => by
    have all : ∀ {vs : List V} {ws : List W} {ds : List PyData}, Reps K μ st.length H vs ws → datAll (dat st n) ws = some ds → DpAll K H vs ds := by
      intro vs ws
      induction ws generalizing vs with
      | nil => intro ds r h; cases r; cases h; exact .nil
      | cons x xs ih =>
        intro ds r h
        cases r with
        | cons r rs =>
          unfold datAll at h
          split at h
          · rename_i h1 h2
            cases h
            exact .cons (dat_dp S n r h1) (ih rs h2)
          · cases h
    cases r with
    | non => cases h; exact .non
    | bl b => cases h; exact .bl b
    | int i => cases h; exact .int i
    | str x =>
      simp only [dat] at h
      split at h
      · cases h; exact .str x
      · cases h
    | ty _ => cases h
    | tup t rs =>
      simp only [dat] at h
      cases e : datAll (dat st n) _ with
      | none => rw [e] at h; cases h
      | some ds => rw [e] at h; cases h; exact .tup t.sq (all rs e)
    | ls hn =>
      simp only [dat] at h
      split at h
      · rename_i xs e1
        cases e : datAll (dat st n) _ with
        | none => rw [e] at h; cases h
        | some ds =>
          rw [e] at h
          cases h
          obtain ⟨vs, q1, r1⟩ := S.lstAt e1
          exact .lst (.inl (.inl q1)) (all r1 e)
      · cases h
    | frz f => cases h; exact .lst f.sq (dpInts _)
theorem shInts : ∀ ns : List Int, PyData.canLayAll0 (ns.map PyData.int) = true ∧ PyData.depthAll (ns.map PyData.int) ≤ 0
  | [] => ⟨rfl, by simp [PyData.depthAll]⟩
  | n :: ns => by
    have h := shInts ns
    refine ⟨by simp [PyData.canLayAll0, PyData.canLay0, h.1], ?_⟩
    have := h.2
    simp [PyData.depthAll, PyData.depth]
    omega
theorem dat_sh {st : Sto} : ∀ (n : Nat) {w : W} {d : PyData}, dat st n w = some d → d.canLay0 = true ∧ d.depth ≤ n
  | 0, _, _, h => by cases h
  | n + 1, w, d, h => by
    have all : ∀ {ws : List W} {ds : List PyData}, datAll (dat st n) ws = some ds → PyData.canLayAll0 ds = true ∧ PyData.depthAll ds ≤ n := by
      intro ws
      induction ws with
      | nil => intro ds h; cases h; exact ⟨rfl, by simp [PyData.depthAll]⟩
      | cons x xs ih =>
        intro ds h
        unfold datAll at h
        split at h
        · rename_i h1 h2
          cases h
          have a := dat_sh n h1
          have b := ih h2
          refine ⟨by simp [PyData.canLayAll0, a.1, b.1], ?_⟩
          have a2 := a.2
          have b2 := b.2
          simp [PyData.depthAll]
          omega
        · cases h
    cases w with
    | non => cases h; exact ⟨rfl, by simp [PyData.depth]⟩
    | bl b => cases h; exact ⟨rfl, by simp [PyData.depth]⟩
    | int i => cases h; exact ⟨rfl, by simp [PyData.depth]⟩
    | str x =>
      simp only [dat] at h
      split at h
      · rename_i hs
        cases h; exact ⟨by simpa [PyData.canLay0] using hs, by simp [PyData.depth]⟩
      · cases h
    | ty _ => cases h
    | tup xs =>
      simp only [dat] at h
      cases e : datAll (dat st n) xs with
      | none => rw [e] at h; cases h
      | some ds =>
        rw [e] at h; cases h
        have a := all e
        refine ⟨by simp [PyData.canLay0, a.1], ?_⟩
        have a2 := a.2
        simp [PyData.depth]
        omega
    | ls k =>
      simp only [dat] at h
      split at h
      · rename_i xs e1
        cases e : datAll (dat st n) xs with
        | none => rw [e] at h; cases h
        | some ds =>
          rw [e] at h; cases h
          have a := all e
          refine ⟨by simp [PyData.canLay0, a.1], ?_⟩
          have a2 := a.2
          simp [PyData.depth]
          omega
      · cases h
    | frz ns =>
      cases h
      have a := shInts ns
      refine ⟨by simp [PyData.canLay0, a.1], ?_⟩
      have a2 := a.2
      simp [PyData.depth]
      omega
theorem dat_shaped {st : Sto} {n : Nat} {w : W} {d : PyData} (hn : n ≤ 20) (h : dat st n w = some d) : SeqAt.shaped d = true := by
  obtain ⟨a, b⟩ := dat_sh n h
  unfold SeqAt.shaped
  rw [a]
  simp
  omega
def deep : Nat := 12
def fEq (neg : Bool) : W → W → Sto → R W := fun a b st => match dat st deep a, dat st deep b with
  | some d, some e => .ok (.bl (xor neg (PyData.eqv d e))) st
  | _, _ => .err
theorem o_eq {N : List Str} {sc : Scope} (hX : In X N sc) : OpR X (compareOp .Eq) (lO X.K (fEq false)) := op_imp (op_eqD (by have := hX.units; omega)) fun x y H Q ⟨μ, st, a, b, w, st', S, ra, rb, e, k⟩ => by
  unfold fEq at e
  split at e
  · rename_i d1 d2 h1 h2
    cases e
    rw [Bool.false_xor] at k
    exact ⟨d1, d2, dat_dp S _ ra h1, dat_dp S _ rb h2, dat_shaped (by decide) h1, dat_shaped (by decide) h2, k.here S (.bl _)⟩
  · cases e
theorem o_ne {N : List Str} {sc : Scope} (hX : In X N sc) : OpR X (compareOp .NotEq) (lO X.K (fEq true)) := op_imp (op_neD (by have := hX.units; omega)) fun x y H Q ⟨μ, st, a, b, w, st', S, ra, rb, e, k⟩ => by
  unfold fEq at e
  split at e
  · rename_i d1 d2 h1 h2
    cases e
    rw [Bool.true_xor] at k
    exact ⟨d1, d2, dat_dp S _ ra h1, dat_dp S _ rb h2, dat_shaped (by decide) h1, dat_shaped (by decide) h2, k.here S (.bl _)⟩
  · cases e
def rInT (K : PySem.W.Frag) : R2 := fun x y H Q => ∃ d ds, Dp K H x d ∧ Dp K H y (.tuple ds) ∧ SeqAt.shaped d = true ∧ SeqAt.shaped (.tuple ds) = true ∧ Q (.bl (ds.any fun z => PyData.eqv z d)) H
def rNotInT (K : PySem.W.Frag) : R2 := fun x y H Q => ∃ d ds, Dp K H x d ∧ Dp K H y (.tuple ds) ∧ SeqAt.shaped d = true ∧ SeqAt.shaped (.tuple ds) = true ∧ Q (.bl (!ds.any fun z => PyData.eqv z d)) H
theorem room_inT {A : Around} {d : PyData} {ds : List PyData} (h : SeqAt.shaped d = true) (hu : A.units + 65 < cLine) : A.units + 1 + min (PyData.depthAll ds) d.depth < cLine := by
  have := SeqAt.depth_of_shaped h
  have h2 : min (PyData.depthAll ds) d.depth ≤ d.depth := Nat.min_le_right _ _
  omega
theorem op_inT (hu : X.A.units + 65 < cLine) : OpR X (compareOp .In) (rInT X.K) := by
  intro pins s σ H x y v u Q I rx ry h
  obtain ⟨d, ds, hd, he, sd, se, q⟩ := h
  obtain ⟨as, r1⟩ := Dp.reads I d x v hd rx
  obtain ⟨bs, r2⟩ := Dp.reads I (.tuple ds) y u he ry
  exact SeqAt.in_tuple_reads r2 r1 (SeqAt.canLay_of_shaped se) (SeqAt.canLay_of_shaped sd) (room_inT sd hu) ⟨.bl _, H, I, rfl, q⟩
theorem op_notInT (hu : X.A.units + 65 < cLine) : OpR X (compareOp .NotIn) (rNotInT X.K) := by
  intro pins s σ H x y v u Q I rx ry h
  obtain ⟨d, ds, hd, he, sd, se, q⟩ := h
  obtain ⟨as, r1⟩ := Dp.reads I d x v hd rx
  obtain ⟨bs, r2⟩ := Dp.reads I (.tuple ds) y u he ry
  exact SeqAt.notIn_tuple_reads r2 r1 (SeqAt.canLay_of_shaped se) (SeqAt.canLay_of_shaped sd) (room_inT sd hu) ⟨.bl _, H, I, rfl, q⟩
def fIn (neg : Bool) : W → W → Sto → R W := fun a b st => match dat st deep a, dat st deep b with
  | some d, some (.tuple ds) => .ok (.bl (xor neg (ds.any fun z => PyData.eqv z d))) st
  | some d, some (.list ds) => .ok (.bl (xor neg (ds.any fun z => PyData.eqv z d))) st
  | _, _ => .err
theorem o_in {N : List Str} {sc : Scope} (hX : In X N sc) : OpR X (compareOp .In) (lO X.K (fIn false)) := op_imp ((op_inT hX.units).or (op_inD hX.units)) fun x y H Q ⟨μ, st, a, b, w, st', S, ra, rb, e, k⟩ => by
  unfold fIn at e
  split at e
  · rename_i d1 d2 h1 h2
    cases e
    rw [Bool.false_xor] at k
    exact .inl ⟨d1, d2, dat_dp S _ ra h1, dat_dp S _ rb h2, dat_shaped (by decide) h1, dat_shaped (by decide) h2, k.here S (.bl _)⟩
  · rename_i d1 d2 h1 h2
    cases e
    rw [Bool.false_xor] at k
    exact .inr ⟨d1, d2, dat_dp S _ ra h1, dat_dp S _ rb h2, dat_shaped (by decide) h1, dat_shaped (by decide) h2, k.here S (.bl _)⟩
  · cases e
theorem o_notin {N : List Str} {sc : Scope} (hX : In X N sc) : OpR X (compareOp .NotIn) (lO X.K (fIn true)) := op_imp ((op_notInT hX.units).or (op_notInD hX.units)) fun x y H Q ⟨μ, st, a, b, w, st', S, ra, rb, e, k⟩ => by
  unfold fIn at e
  split at e
  · rename_i d1 d2 h1 h2
    cases e
    rw [Bool.true_xor] at k
    exact .inl ⟨d1, d2, dat_dp S _ ra h1, dat_dp S _ rb h2, dat_shaped (by decide) h1, dat_shaped (by decide) h2, k.here S (.bl _)⟩
  · rename_i d1 d2 h1 h2
    cases e
    rw [Bool.true_xor] at k
    exact .inr ⟨d1, d2, dat_dp S _ ra h1, dat_dp S _ rb h2, dat_shaped (by decide) h1, dat_shaped (by decide) h2, k.here S (.bl _)⟩
  · cases e
/-- is, is not: beside None, of two truth values -/
def fIs (neg : Bool) : W → W → Sto → R W
  | .bl a, .bl b, st => .ok (.bl (xor neg (decide (a = b)))) st
  | .non, .non, st => .ok (.bl (xor neg true)) st
  | _, .non, st => .ok (.bl (xor neg false)) st
  | _, _, _ => .err
theorem is_run {neg : Bool} {K : PySem.W.Frag} {x y : V} {H : Hp} {Q : VK} (h : lO K (fIs neg) x y H Q) : (∃ a b, x = .bl a ∧ y = .bl b ∧ Q (.bl (xor neg (decide (a = b)))) H) ∨ (y = .non ∧ Q (.bl (xor neg (decide (x = .non)))) H) := by
  obtain ⟨μ, st, a, b, w, st', S, ra, rb, e, k⟩ := h
  cases b with
  | bl b =>
    cases a with
    | bl a =>
      have := rep_bl ra; subst this
      have := rep_bl rb; subst this
      cases e
      exact .inl ⟨a, b, rfl, rfl, k.here S (.bl _)⟩
    | _ => cases e
  | non =>
    have := rep_non rb; subst this
    refine .inr ⟨rfl, ?_⟩
    cases ra <;> cases e <;> exact k.here S (.bl _)
  | _ => cases a <;> cases e
theorem o_is : OpR X (compareOp .Is) (lO X.K (fIs false)) := op_imp (op_isBl.or op_isN) fun x y H Q h => by
  rcases is_run h with ⟨a, b, e1, e2, q⟩ | ⟨e, q⟩
  · exact .inl ⟨a, b, e1, e2, by simpa using q⟩
  · exact .inr ⟨e, by simpa using q⟩
theorem o_isnot : OpR X (compareOp .IsNot) (lO X.K (fIs true)) := op_imp (op_notBl.or op_notN) fun x y H Q h => by
  rcases is_run h with ⟨a, b, e1, e2, q⟩ | ⟨e, q⟩
  · exact .inl ⟨a, b, e1, e2, by simpa using q⟩
  · exact .inr ⟨e, by simpa using q⟩
end
end Rx

/-! RxD: subscripts, slices, stores, built-in functions, methods of lists. -/
namespace Rx
open PySem PySem.Spec PyProof.Rows L2

section
variable {X : Cx} {e a b c : Expr} {pos : Pos}

/-! ### x[i] -/
theorem ix_imp {r r' : R2} (h : IxR X r) (i : ∀ x y H Q, r' x y H Q → r x y H Q) : IxR X r' := fun va sl pins s σ H x y v u Q I rx ry q => h va sl pins s σ H x y v u Q I rx ry (i x y H Q q)
theorem sl_imp {r r' : V → Option Int → Option Int → Hp → VK → Prop} (h : SlR X r) (i : ∀ x lo hi H Q, r' x lo hi H Q → r x lo hi H Q) : SlR X r' := fun pins s σ H x v vl vu lo hi sl Q I rx hs p1 p2 q => h pins s σ H x v vl vu lo hi sl Q I rx hs p1 p2 (i _ _ _ _ _ q)
theorem mt_imp {id : String} {r r' : V → List V → Hp → VK → Prop} (h : MtR X id r) (i : ∀ x xs H Q, r' x xs H Q → r x xs H Q) : MtR X id r' := fun pins s σ H x xs v us Q I rx rs q => h pins s σ H x xs v us Q I rx rs (i _ _ _ _ q)
theorem Reps.atI {K : PySem.W.Frag} {μ : Nat → Addr} {L : Nat} {H : Hp} {vs : List V} {ws : List W} {i : Int} {w : W} (r : Reps K μ L H vs ws) (h : atI ws i = some w) : ∃ v, L2.atI vs i = some v ∧ Rep K μ L H v w := by
  unfold L2.atI at h ⊢
  rw [r.length]
  cases e : ixN ws.length i with
  | none => rw [e] at h; cases h
  | some j =>
    rw [e] at h
    exact r.get h
def fIx : W → W → Sto → R W := fun x y st => match y with
  | .int i => match x with
    | .tup xs => match atI xs i with
      | some w => .ok w st
      | none => .err
    | .ls n => match st[n]? with
      | some (.lst xs) => match atI xs i with
        | some w => .ok w st
        | none => .err
      | none => .err
    | .frz ns => match atI ns i with
      | some k => .ok (.int k) st
      | none => .err
    | _ => .err
  | _ => .err
theorem atI_map {α β : Type} (f : α → β) (xs : List α) (i : Int) : L2.atI (xs.map f) i = (L2.atI xs i).map f := by
  unfold L2.atI
  rw [List.length_map]
  cases ixN xs.length i with
  | none => rfl
  | some j => simp
theorem i_ix : IxR X (lO X.K fIx) := ix_imp (ix_list.or ix_tup) fun x y H Q ⟨μ, st, a, b, w, st', S, ra, rb, e, k⟩ => by
  cases b with
  | int i =>
    have := rep_int rb; subst this
    cases a with
    | tup xs =>
      obtain ⟨a1, vs, rfl, t1, r1⟩ := rep_tup ra
      simp only [fIx] at e
      split at e
      · rename_i h1
        cases e
        obtain ⟨v, h2, h3⟩ := r1.atI h1
        exact .inr ⟨a1, vs, i, v, rfl, rfl, t1.sq, h2, k.here S h3⟩
      · cases e
    | ls n =>
      obtain ⟨rfl, hn⟩ := rep_ls ra
      simp only [fIx] at e
      split at e
      · rename_i e1
        split at e
        · rename_i h1
          cases e
          obtain ⟨vs, q1, r1⟩ := S.lstAt e1
          obtain ⟨v, h2, h3⟩ := r1.atI h1
          exact .inl ⟨_, vs, i, v, rfl, rfl, .inl (.inl q1), h2, k.here S h3⟩
        · cases e
      · cases e
    | frz ns =>
      obtain ⟨a1, rfl, f⟩ := rep_frz ra
      simp only [fIx] at e
      split at e
      · rename_i h1
        cases e
        exact .inl ⟨_, _, i, _, rfl, rfl, f.sq, by rw [atI_map, h1]; rfl, k.here S (.int _)⟩
      · cases e
    | _ => cases e
  | _ => cases e
theorem re_ix {ma mb : EX} (ha : RE X a ma) (hb : RE X b mb) (hs : PlainIx b := by exact fun _ _ => rfl) : RE X (.Subscript a b pos) (eBin fIx ma mb) :=
  pe_imp (pe_ix i_ix ha hb hs) fun σ H Q h => bin_run (fun _ _ _ _ q => q) h

/-! ### x[lo:hi] -/
def cutW {α : Type} (xs : List α) (lo hi : Option Int) : List α := (xs.drop (HT.sIx xs.length 0 lo)).take (HT.sIx xs.length xs.length hi - HT.sIx xs.length 0 lo)
theorem Reps.cutW {K : PySem.W.Frag} {μ : Nat → Addr} {L : Nat} {H : Hp} {vs : List V} {ws : List W} {lo hi : Option Int} (r : Reps K μ L H vs ws) : Reps K μ L H (cutV vs lo hi) (Rx.cutW ws lo hi) := by
  unfold cutV Rx.cutW
  rw [r.length]
  exact (r.drop _).take _
def fSl (x : W) (lo hi : Option Int) (st : Sto) : R W := match x with
  | .tup xs => .ok (.tup (cutW xs lo hi)) st
  | .ls n => match st[n]? with
    | some (.lst xs) => .ok (.ls st.length) (st ++ [.lst (cutW xs lo hi)])
    | none => .err
  | .frz ns => .ok (.ls st.length) (st ++ [.lst (cutW (ns.map W.int) lo hi)])
  | _ => .err
def lS' (K : PySem.W.Frag) : V → Option Int → Option Int → Hp → VK → Prop := fun x lo hi H Q => ∃ μ st a w st', Sim K μ st H ∧ Rep K μ st.length H x a ∧ fSl a lo hi st = .ok w st' ∧ KE K μ st.length H w st' Q
theorem s_sl : SlR X (lS' X.K) := sl_imp (sl_list.or sl_tupA) fun x lo hi H Q ⟨μ, st, a, w, st', S, ra, e, k⟩ => by
  cases a with
  | tup xs =>
    obtain ⟨a1, vs, rfl, t1, r1⟩ := rep_tup ra
    cases e
    refine .inr ⟨a1, vs, rfl, t1.sq, fun h => ?_, fun _ p hp => k.tup S r1.cutW hp⟩
    have e2 : cutW xs lo hi = xs := by
      rw [r1.length] at h
      unfold cutW
      rw [h.1, h.2]
      simp
    rw [e2] at k
    exact k.here S (.tup t1 r1)
  | ls n =>
    obtain ⟨rfl, hn⟩ := rep_ls ra
    simp only [fSl] at e
    split at e
    · rename_i e1
      cases e
      obtain ⟨vs, q1, r1⟩ := S.lstAt e1
      exact .inl ⟨_, vs, rfl, .inl (.inl q1), fun p hp => k.new S r1.cutW hp⟩
    · cases e
  | frz ns =>
    obtain ⟨a1, rfl, f⟩ := rep_frz ra
    cases e
    exact .inl ⟨_, _, rfl, f.sq, fun p hp => k.new S (Reps.ints.cutW) hp⟩
  | _ => cases e
/-- an optional part -/
abbrev OX := Env' → Sto → R (Option Int)
def oNone : OX := fun _ st => .ok none st
def oSome (m : EX) : OX := fun env st => (m env st).bind fun x s1 => match x with
  | .int i => .ok (some i) s1
  | _ => .err
def lP' (K : PySem.W.Frag) (m : OX) : TO := fun σ H Q => ∃ μ env st o st', Sim K μ st H ∧ EnvR K μ st.length H env σ ∧ m env st = .ok o st' ∧ ∀ μ' H', Nxt K μ st.length H μ' st'.length H' → Sim K μ' st' H' → Q o H'
abbrev RO (X : Cx) (e : Option Expr) (m : OX) : Prop := PO X e (lP' X.K m)
theorem po_imp {e : Option Expr} {t t' : TO} (h : PO X e t) (i : ∀ σ H Q, t' σ H Q → t σ H Q) : PO X e t' := ⟨fun pins s σ H Q I q => h.run pins s σ H Q I (i σ H Q q)⟩
theorem ro_none : RO X none oNone := po_imp po_none fun σ H Q ⟨μ, env, st, o, st', S, E, h, k⟩ => by
  cases h
  exact k _ _ Nxt.refl S
theorem ro_some {m : EX} (h : RE X e m) : RO X (some e) (oSome m) := po_imp (po_some h) fun σ H Q ⟨μ, env, st, o, st', S, E, h, k⟩ => by
  obtain ⟨x, s1, h1, h2⟩ := R.bind_ok h
  refine ⟨μ, env, st, x, s1, S, E, h1, fun μ1 H1 v N1 S1 r1 => ?_⟩
  cases x with
  | int i =>
    cases h2
    have := rep_int r1; subst this
    exact ⟨i, rfl, k _ _ N1 S1⟩
  | _ => cases h2
def eSl (m : EX) (l h : OX) : EX := fun env st => (m env st).bind fun x s1 => (l env s1).bind fun lo s2 => (h env s2).bind fun hi s3 => fSl x lo hi s3
theorem re_sl {m : EX} {l h : OX} {lo hi : Option Expr} {p2 : Pos} (he : RE X e m) (hl : RO X lo l) (hh : RO X hi h) : RE X (.Subscript e (.Slice lo hi none p2) pos) (eSl m l h) :=
  pe_imp (pe_slice s_sl he hl hh) fun σ H Q ⟨μ, env, st, w, st', S, E, h, k⟩ => by
    obtain ⟨x, s1, h1, h2⟩ := R.bind_ok h
    obtain ⟨lo, s2, h3, h4⟩ := R.bind_ok h2
    obtain ⟨hi, s3, h5, h6⟩ := R.bind_ok h4
    exact ⟨μ, env, st, x, s1, S, E, h1, fun μ1 H1 v N1 S1 r1 => ⟨μ1, env, s1, lo, s2, S1, E.nxt N1, h3, fun μ2 H2 N2 S2 => ⟨μ2, env, s2, hi, s3, S2, (E.nxt N1).nxt N2, h5, fun μ3 H3 N3 S3 =>
      ⟨μ3, s3, x, w, st', S3, (r1.nxt N2).nxt N3, h6, k.mono ((N1.trans N2).trans N3)⟩⟩⟩⟩

/-! ### built-in functions -/
def f1 (g : W → Sto → R W) : FX := fun ws st => match ws with
  | [a] => g a st
  | _ => .err
def f2 (g : W → W → Sto → R W) : FX := fun ws st => match ws with
  | [a, b] => g a b st
  | _ => .err
theorem f1_run {g : W → Sto → R W} {K : PySem.W.Frag} {vs : List V} {H : Hp} {Q : VK} (h : lC K (f1 g) vs H Q) : ∃ v, vs = [v] ∧ ∃ μ st a w st', Sim K μ st H ∧ Rep K μ st.length H v a ∧ g a st = .ok w st' ∧ KE K μ st.length H w st' Q := by
  obtain ⟨μ, st, ws, w, st', S, r, e, k⟩ := h
  match ws, r, e with
  | [a], .cons r .nil, e => exact ⟨_, rfl, μ, st, a, w, st', S, r, e, k⟩
theorem f2_run {g : W → W → Sto → R W} {K : PySem.W.Frag} {vs : List V} {H : Hp} {Q : VK} (h : lC K (f2 g) vs H Q) : ∃ v u, vs = [v, u] ∧ ∃ μ st a b w st', Sim K μ st H ∧ Rep K μ st.length H v a ∧ Rep K μ st.length H u b ∧ g a b st = .ok w st' ∧ KE K μ st.length H w st' Q := by
  obtain ⟨μ, st, ws, w, st', S, r, e, k⟩ := h
  match ws, r, e with
  | [a, b], .cons r (.cons r' .nil), e => exact ⟨_, _, rfl, μ, st, a, b, w, st', S, r, r', e, k⟩
/-- the items of a list or a tuple as they stand -/
def seqW (st : Sto) : W → Option (List W)
  | .tup xs => some xs
  | .ls n => match st[n]? with
    | some (.lst xs) => some xs
    | none => none
  | .frz ns => some (ns.map W.int)
  | _ => none
theorem seqW_ok {K : PySem.W.Frag} {μ : Nat → Addr} {H : Hp} {st : Sto} {v : V} {w : W} {xs : List W} (S : Sim K μ st H) (r : Rep K μ st.length H v w) (h : seqW st w = some xs) : ∃ a vs, v = .ref a ∧ (SqL K H a vs ∨ Tp K H a vs) ∧ Reps K μ st.length H vs xs := by
  cases w with
  | tup ys =>
    obtain ⟨a, vs, rfl, t, r1⟩ := rep_tup r
    cases h
    exact ⟨a, vs, rfl, .inr t, r1⟩
  | ls n =>
    obtain ⟨rfl, hn⟩ := rep_ls r
    simp only [seqW] at h
    split at h
    · rename_i e1
      cases h
      obtain ⟨vs, q1, r1⟩ := S.lstAt e1
      exact ⟨_, vs, rfl, .inl (.inl (.inl q1)), r1⟩
    · cases h
  | frz ns =>
    obtain ⟨a, rfl, f⟩ := rep_frz r
    cases h
    exact ⟨a, _, rfl, .inl f.sq, Reps.ints⟩
  | _ => cases h
def gLen (a : W) (st : Sto) : R W := match a with
  | .str z => if z.length ≤ 100000 then .ok (.int z.length) st else .err
  | _ => match seqW st a with
    | some xs => .ok (.int xs.length) st
    | none => .err
theorem c_len : CallR X (.builtin "len") (lC X.K (f1 gLen)) := call_imp (call_len_seq.or call_len_str) fun vs H Q h => by
  obtain ⟨v, rfl, μ, st, a, w, st', S, r, e, k⟩ := f1_run h
  have seq : ∀ {xs : List W}, seqW st a = some xs → R.ok (W.int xs.length) st = R.ok w st' → (∃ p ys, [v] = [V.ref p] ∧ (SqL X.K H p ys ∨ SqT X.K H p ys) ∧ Q (.int ys.length) H) := by
    intro xs h1 h2
    cases h2
    obtain ⟨p, ys, rfl, q, r1⟩ := seqW_ok S r h1
    refine ⟨p, ys, rfl, q.imp id Tp.sq, ?_⟩
    rw [r1.length]
    exact k.here S (.int _)
  cases a with
  | str z =>
    have := rep_str r; subst this
    simp only [gLen] at e
    split at e
    · cases e
      exact .inr ⟨z, rfl, line_of (by assumption), k.here S (.int _)⟩
    · cases e
  | _ =>
    refine .inl ?_
    simp only [gLen] at e
    split at e
    · rename_i h1
      exact seq h1 e
    · cases e
def gAbs (a : W) (st : Sto) : R W := match a with
  | .int i => .ok (.int (if i < 0 then -i else i)) st
  | _ => .err
theorem c_abs : CallR X (.builtin "abs") (lC X.K (f1 gAbs)) := call_imp call_abs fun vs H Q h => by
  obtain ⟨v, rfl, μ, st, a, w, st', S, r, e, k⟩ := f1_run h
  cases a with
  | int i =>
    have := rep_int r; subst this
    cases e
    exact ⟨i, rfl, k.here S (.int _)⟩
  | _ => cases e
def gInt (a : W) (st : Sto) : R W := match a with
  | .int i => .ok (.int i) st
  | .bl b => .ok (.int (if b then 1 else 0)) st
  | _ => .err
theorem c_int : CallR X (.type "int") (lC X.K (f1 gInt)) := call_imp call_int1 fun vs H Q h => by
  obtain ⟨v, rfl, μ, st, a, w, st', S, r, e, k⟩ := f1_run h
  cases a with
  | int i =>
    have := rep_int r; subst this
    cases e
    exact .inl ⟨i, rfl, k.here S (.int _)⟩
  | bl i =>
    have := rep_bl r; subst this
    cases e
    exact .inr ⟨i, rfl, k.here S (.int _)⟩
  | _ => cases e
def gMax2 : W → W → Sto → R W
  | .int i, .int j, st => .ok (.int (if j > i then j else i)) st
  | _, _, _ => .err
def gMin2 : W → W → Sto → R W
  | .int i, .int j, st => .ok (.int (if j < i then j else i)) st
  | _, _, _ => .err
/-- the whole numbers of a list -/
def intsW : List W → Option (List Int)
  | [] => some []
  | .int i :: r => match intsW r with
    | some is => some (i :: is)
    | none => none
  | _ => none
theorem intsW_eq : ∀ {ws : List W} {ns : List Int}, intsW ws = some ns → ws = ns.map W.int
  | [], ns, h => by cases h; rfl
  | .int i :: r, ns, h => by
    unfold intsW at h
    split at h
    · rename_i is h1
      cases h
      rw [intsW_eq h1]; rfl
    · cases h
  | .non :: _, _, h => by cases h
  | .bl _ :: _, _, h => by cases h
  | .str _ :: _, _, h => by cases h
  | .ty _ :: _, _, h => by cases h
  | .tup _ :: _, _, h => by cases h
  | .ls _ :: _, _, h => by cases h
  | .frz _ :: _, _, h => by cases h
def blsW : List W → Option (List Bool)
  | [] => some []
  | .bl i :: r => match blsW r with
    | some is => some (i :: is)
    | none => none
  | _ => none
theorem blsW_eq : ∀ {ws : List W} {ns : List Bool}, blsW ws = some ns → ws = ns.map W.bl
  | [], ns, h => by cases h; rfl
  | .bl i :: r, ns, h => by
    unfold blsW at h
    split at h
    · rename_i is h1
      cases h
      rw [blsW_eq h1]; rfl
    · cases h
  | .non :: _, _, h => by cases h
  | .int _ :: _, _, h => by cases h
  | .str _ :: _, _, h => by cases h
  | .ty _ :: _, _, h => by cases h
  | .tup _ :: _, _, h => by cases h
  | .ls _ :: _, _, h => by cases h
  | .frz _ :: _, _, h => by cases h
/-- a list (not a tuple) of whole numbers -/
def lintsW (st : Sto) : W → Option (List Int)
  | .ls n => match st[n]? with
    | some (.lst xs) => intsW xs
    | none => none
  | .frz ns => some ns
  | _ => none
theorem lintsW_ok {K : PySem.W.Frag} {μ : Nat → Addr} {H : Hp} {st : Sto} {v : V} {w : W} {ns : List Int} (S : Sim K μ st H) (r : Rep K μ st.length H v w) (h : lintsW st w = some ns) : ∃ a, v = .ref a ∧ SqL K H a (ns.map V.int) := by
  cases w with
  | ls n =>
    obtain ⟨rfl, hn⟩ := rep_ls r
    simp only [lintsW] at h
    split at h
    · rename_i e1
      obtain ⟨vs, q1, r1⟩ := S.lstAt e1
      rw [intsW_eq h] at r1
      rw [r1.ofInts] at q1
      exact ⟨_, rfl, .inl (.inl q1)⟩
    · cases h
  | frz ns =>
    obtain ⟨a, rfl, f⟩ := rep_frz r
    cases h
    exact ⟨a, rfl, f.sq⟩
  | _ => cases h
def gSumL (a : W) (st : Sto) : R W := match lintsW st a with
  | some ns => .ok (.int ns.sum) st
  | none => .err
def greatest : List Int → Int
  | [] => 0
  | [x] => x
  | x :: r => let y := greatest r; if y < x then x else y
def least : List Int → Int
  | [] => 0
  | [x] => x
  | x :: r => let y := least r; if x < y then x else y
theorem greatest_ok : ∀ {ns : List Int}, ns ≠ [] → greatest ns ∈ ns ∧ ∀ y ∈ ns, y ≤ greatest ns
  | [], h => absurd rfl h
  | [x], _ => ⟨by simp [greatest], fun y hy => by simp [greatest] at hy ⊢; omega⟩
  | x :: z :: r, _ => by
    obtain ⟨h1, h2⟩ := greatest_ok (ns := z :: r) (by simp)
    simp only [greatest]
    split
    · refine ⟨by simp, fun y hy => ?_⟩
      rcases List.mem_cons.mp hy with rfl | hy
      · exact Int.le_refl _
      · have := h2 y hy; omega
    · refine ⟨List.mem_cons_of_mem _ h1, fun y hy => ?_⟩
      rcases List.mem_cons.mp hy with rfl | hy
      · omega
      · exact h2 y hy
theorem least_ok : ∀ {ns : List Int}, ns ≠ [] → least ns ∈ ns ∧ ∀ y ∈ ns, least ns ≤ y
  | [], h => absurd rfl h
  | [x], _ => ⟨by simp [least], fun y hy => by simp [least] at hy ⊢; omega⟩
  | x :: z :: r, _ => by
    obtain ⟨h1, h2⟩ := least_ok (ns := z :: r) (by simp)
    simp only [least]
    split
    · refine ⟨by simp, fun y hy => ?_⟩
      rcases List.mem_cons.mp hy with rfl | hy
      · exact Int.le_refl _
      · have := h2 y hy; omega
    · refine ⟨List.mem_cons_of_mem _ h1, fun y hy => ?_⟩
      rcases List.mem_cons.mp hy with rfl | hy
      · omega
      · exact h2 y hy
def gMaxL (a : W) (st : Sto) : R W := match lintsW st a with
  | some (n :: ns) => .ok (.int (greatest (n :: ns))) st
  | _ => .err
def gMinL (a : W) (st : Sto) : R W := match lintsW st a with
  | some (n :: ns) => .ok (.int (least (n :: ns))) st
  | _ => .err
def fMax : FX := fun ws st => match ws with
  | [a] => gMaxL a st
  | [a, b] => gMax2 a b st
  | _ => .err
def fMin : FX := fun ws st => match ws with
  | [a] => gMinL a st
  | [a, b] => gMin2 a b st
  | _ => .err
theorem c_max {N : List Str} {sc : Scope} (hX : In X N sc) : CallR X (.builtin "max") (lC X.K fMax) := call_imp ((cr_max hX.calm).or (call_max2 hX.calm)) fun vs H Q ⟨μ, st, ws, w, st', S, r, e, k⟩ => by
  match ws, r, e with
  | [a], .cons r .nil, e =>
    refine .inl ?_
    simp only [fMax, gMaxL] at e
    split at e
    · rename_i n ns h1
      cases e
      obtain ⟨p, rfl, q⟩ := lintsW_ok S r h1
      refine ⟨p, n :: ns, rfl, q, by simp, fun m hm hy => ?_⟩
      obtain ⟨g1, g2⟩ := greatest_ok (ns := n :: ns) (by simp)
      have : m = greatest (n :: ns) := by
        have a1 := hy _ g1
        have a2 := g2 _ hm
        omega
      subst this
      exact k.here S (.int _)
    · cases e
  | [a, b], .cons r (.cons r' .nil), e =>
    refine .inr ?_
    cases a with
    | int i =>
      cases b with
      | int j =>
        have := rep_int r; subst this
        have := rep_int r'; subst this
        cases e
        exact ⟨i, j, rfl, k.here S (.int _)⟩
      | _ => cases e
    | _ => cases e
theorem c_min {N : List Str} {sc : Scope} (hX : In X N sc) : CallR X (.builtin "min") (lC X.K fMin) := call_imp ((cr_min hX.calm).or (call_min2 hX.calm)) fun vs H Q ⟨μ, st, ws, w, st', S, r, e, k⟩ => by
  match ws, r, e with
  | [a], .cons r .nil, e =>
    refine .inl ?_
    simp only [fMin, gMinL] at e
    split at e
    · rename_i n ns h1
      cases e
      obtain ⟨p, rfl, q⟩ := lintsW_ok S r h1
      refine ⟨p, n :: ns, rfl, q, by simp, fun m hm hy => ?_⟩
      obtain ⟨g1, g2⟩ := least_ok (ns := n :: ns) (by simp)
      have : m = least (n :: ns) := by
        have a1 := hy _ g1
        have a2 := g2 _ hm
        omega
      subst this
      exact k.here S (.int _)
    · cases e
  | [a, b], .cons r (.cons r' .nil), e =>
    refine .inr ?_
    cases a with
    | int i =>
      cases b with
      | int j =>
        have := rep_int r; subst this
        have := rep_int r'; subst this
        cases e
        exact ⟨i, j, rfl, k.here S (.int _)⟩
      | _ => cases e
    | _ => cases e
def lblsW (st : Sto) : W → Option (List Bool)
  | .ls n => match st[n]? with
    | some (.lst xs) => blsW xs
    | none => none
  | _ => none
theorem lblsW_ok {K : PySem.W.Frag} {μ : Nat → Addr} {H : Hp} {st : Sto} {v : V} {w : W} {ns : List Bool} (S : Sim K μ st H) (r : Rep K μ st.length H v w) (h : lblsW st w = some ns) : ∃ a, v = .ref a ∧ SqL K H a (ns.map V.bl) := by
  cases w with
  | ls n =>
    obtain ⟨rfl, hn⟩ := rep_ls r
    simp only [lblsW] at h
    split at h
    · rename_i e1
      obtain ⟨vs, q1, r1⟩ := S.lstAt e1
      rw [blsW_eq h] at r1
      rw [r1.ofBls] at q1
      exact ⟨_, rfl, .inl (.inl q1)⟩
    · cases h
  | _ => cases h
def gAll (a : W) (st : Sto) : R W := match lblsW st a with
  | some ns => .ok (.bl (ns.all id)) st
  | none => .err
def gAny (a : W) (st : Sto) : R W := match lblsW st a with
  | some ns => .ok (.bl (ns.any id)) st
  | none => .err
theorem c_all {N : List Str} {sc : Scope} (hX : In X N sc) : CallR X (.builtin "all") (lC X.K (f1 gAll)) := call_imp (cr_all hX.calm) fun vs H Q h => by
  obtain ⟨v, rfl, μ, st, a, w, st', S, r, e, k⟩ := f1_run h
  unfold gAll at e
  split at e
  · rename_i h1
    cases e
    obtain ⟨p, rfl, q⟩ := lblsW_ok S r h1
    exact ⟨p, _, rfl, q, k.here S (.bl _)⟩
  · cases e
theorem c_any {N : List Str} {sc : Scope} (hX : In X N sc) : CallR X (.builtin "any") (lC X.K (f1 gAny)) := call_imp (cr_any hX.calm) fun vs H Q h => by
  obtain ⟨v, rfl, μ, st, a, w, st', S, r, e, k⟩ := f1_run h
  unfold gAny at e
  split at e
  · rename_i h1
    cases e
    obtain ⟨p, rfl, q⟩ := lblsW_ok S r h1
    exact ⟨p, _, rfl, q, k.here S (.bl _)⟩
  · cases e
def gTuple (a : W) (st : Sto) : R W := match seqW st a with
  | some xs => .ok (.tup xs) st
  | none => .err
theorem c_tuple : CallR X (.type "tuple") (lC X.K (f1 gTuple)) := call_imp call_tuple_of fun vs H Q h => by
  obtain ⟨v, rfl, μ, st, a, w, st', S, r, e, k⟩ := f1_run h
  unfold gTuple at e
  split at e
  · rename_i h1
    cases e
    obtain ⟨p, ys, rfl, q, r1⟩ := seqW_ok S r h1
    refine ⟨p, ys, rfl, ?_⟩
    rcases q with q | q
    · exact .inl ⟨q, fun l hl => k.tup S r1 hl⟩
    · exact .inr ⟨q.sq, k.here S (.tup q r1)⟩
  · cases e
def gList (a : W) (st : Sto) : R W := match seqW st a with
  | some xs => .ok (.ls st.length) (st ++ [.lst xs])
  | none => .err
theorem c_list : CallR X (.type "list") (lC X.K (f1 gList)) := call_imp call_list_of fun vs H Q h => by
  obtain ⟨v, rfl, μ, st, a, w, st', S, r, e, k⟩ := f1_run h
  unfold gList at e
  split at e
  · rename_i h1
    cases e
    obtain ⟨p, ys, rfl, q, r1⟩ := seqW_ok S r h1
    exact ⟨p, ys, rfl, q.imp id Tp.sq, fun l hl => k.new S r1 hl⟩
  · cases e
def gGcd : W → W → Sto → R W
  | .int i, .int j, st => .ok (.int ((Nat.gcd i.natAbs j.natAbs : Nat) : Int)) st
  | _, _, _ => .err
theorem c_gcd : CallR X (.builtin "math.gcd") (lC X.K (f2 gGcd)) := call_imp cr_gcd fun vs H Q h => by
  obtain ⟨v, u, rfl, μ, st, a, b, w, st', S, ra, rb, e, k⟩ := f2_run h
  cases a with
  | int i =>
    cases b with
    | int j =>
      have := rep_int ra; subst this
      have := rep_int rb; subst this
      cases e
      exact ⟨i, j, rfl, k.here S (.int _)⟩
    | _ => cases e
  | _ => cases e

/-! ### isinstance -/
def tyN : W → Option String
  | .non => some "NoneType"
  | .bl _ => some "bool"
  | .int _ => some "int"
  | .str _ => some "str"
  | .tup _ => some "tuple"
  | .ls _ => some "list"
  | .frz _ => some "list"
  | .ty _ => none
def isTyB (t n : String) : Bool := (t == n) || (t == "bool" && n == "int")
def plainTy (n : String) : Bool := n == "int" || n == "bool" || n == "str" || n == "tuple" || n == "list"
def isW (t : String) : W → Option Bool
  | .ty n => if plainTy n = true then some (isTyB t n) else none
  | .tup [.ty n, .ty m] => if plainTy n = true ∧ plainTy m = true then some (isTyB t n || isTyB t m) else none
  | _ => none
def gIsi : W → W → Sto → R W := fun a b st => match tyN a with
  | some t => match isW t b with
    | some k => .ok (.bl k) st
    | none => .err
  | none => .err
theorem kitB_ok {t n : String} {K : PySem.W.Frag} (ht : t = "NoneType" ∨ t = "bool" ∨ t = "int" ∨ t = "str" ∨ t = "tuple" ∨ t = "list") (hn : plainTy n = true) : PySem.W.kitOne K (.type t) (.type n) = some (isTyB t n) := by
  have hn' : n = "int" ∨ n = "bool" ∨ n = "str" ∨ n = "tuple" ∨ n = "list" := by
    unfold plainTy at hn
    simp only [Bool.or_eq_true, beq_iff_eq] at hn
    rcases hn with (((h | h) | h) | h) | h <;> simp [h]
  rcases ht with rfl | rfl | rfl | rfl | rfl | rfl <;> rcases hn' with rfl | rfl | rfl | rfl | rfl <;> exact kit_ty (by decide +kernel)
theorem tyN_ok {K : PySem.W.Frag} {μ : Nat → Addr} {H : Hp} {st : Sto} {v : V} {w : W} {t : String} (S : Sim K μ st H) (r : Rep K μ st.length H v w) (h : tyN w = some t) :
    TyX K H v (.type t) ∧ (t = "NoneType" ∨ t = "bool" ∨ t = "int" ∨ t = "str" ∨ t = "tuple" ∨ t = "list") := by
  cases r with
  | non => cases h; exact ⟨.base .non, by simp⟩
  | bl b => cases h; exact ⟨.base (.bl _), by simp⟩
  | int i => cases h; exact ⟨.base (.int _), by simp⟩
  | str x => cases h; exact ⟨.base (.str _), by simp⟩
  | ty n => cases h
  | tup t rs =>
    cases h
    refine ⟨?_, by simp⟩
    rcases t with t | ⟨o, its, n, e1, e2, _⟩
    · exact .base (.tup t)
    · exact .kTuple e1 e2
  | ls hn =>
    cases h
    refine ⟨?_, by simp⟩
    obtain ⟨xs, q⟩ := S.isL hn
    exact .base (.lst q)
  | frz f =>
    cases h
    refine ⟨?_, by simp⟩
    rcases f with ⟨o, f⟩ | ⟨o, its, n, e1, e2, _⟩
    · exact .base (.frz f)
    · exact .kList e1 e2
theorem kit2 {K : PySem.W.Frag} {t n m : String} (hT : t = "NoneType" ∨ t = "bool" ∨ t = "int" ∨ t = "str" ∨ t = "tuple" ∨ t = "list") (h1 : plainTy n = true) (h2 : plainTy m = true) :
    PySem.W.kitAny K (.type t) [.type n, .type m] = some (isTyB t n || isTyB t m) := by
  have a1 := kitB_ok (K := K) hT h1
  have a2 := kitB_ok (K := K) hT h2
  generalize isTyB t n = b1 at a1 ⊢
  generalize isTyB t m = b2 at a2 ⊢
  refine kitAny_cons (b := b1) a1 (fun e1 => ?_) (fun e1 => by rw [e1]; rfl)
  refine kitAny_cons (b := b2) a2 (fun e2 => by rw [e1, e2]; exact kitAny_nil) (fun e2 => by rw [e2]; simp)
theorem isW_run {t : String} {b : W} {k : Bool} (h : isW t b = some k) : (∃ n, b = .ty n ∧ plainTy n = true ∧ k = isTyB t n) ∨ ∃ n m, b = .tup [.ty n, .ty m] ∧ plainTy n = true ∧ plainTy m = true ∧ k = (isTyB t n || isTyB t m) := by
  unfold isW at h
  split at h
  · split at h
    · rename_i hn
      cases h
      exact .inl ⟨_, rfl, hn, rfl⟩
    · cases h
  · split at h
    · rename_i hn
      cases h
      exact .inr ⟨_, _, rfl, hn.1, hn.2, rfl⟩
    · cases h
  · cases h
theorem tys_of {K : PySem.W.Frag} {μ : Nat → Addr} {L : Nat} {H : Hp} {vs : List V} {n m : String} (r : Reps K μ L H vs [.ty n, .ty m]) : vs = [.ty n, .ty m] := by
  match vs, r with
  | [x, y], .cons r1 (.cons r2 .nil) => rw [rep_ty r1, rep_ty r2]
theorem its_of {its : List Value} {n m : String} (r : Vals [.ty n, .ty m] its) : its = [.type n, .type m] := by
  match its, r with
  | [x, y], .cons r1 (.cons r2 .nil) => rw [show x = Value.type n from r1, show y = Value.type m from r2]
theorem c_isi : CallR X (.builtin "isinstance") (lC X.K (f2 gIsi)) := call_imp ((call_isi.or call_isiT).or call_isiK) fun vs H Q h => by
  obtain ⟨v, u, rfl, μ, st, a, b, w, st', S, ra, rb, e, k⟩ := f2_run h
  unfold gIsi at e
  split at e
  · rename_i t ht
    split at e
    · rename_i kk hk
      cases e
      obtain ⟨T, hT⟩ := tyN_ok S ra ht
      have q : Q (.bl kk) H := k.here S (.bl _)
      clear k
      rcases isW_run hk with ⟨n, rfl, hn, rfl⟩ | ⟨n, m, rfl, hn, hm, rfl⟩
      · have := rep_ty rb; subst this
        refine Or.inl (Or.inl ?_)
        exact ⟨v, .ty n, .type t, .type n, isTyB t n, rfl, ClsV.ty n, T, kitB_ok hT hn, q⟩
      · obtain ⟨tp, cs, rfl, tt, rs⟩ := rep_tup rb
        have hcs := tys_of rs
        subst hcs
        rcases tt with tt | ⟨o, its, n', e1, e2, e3, e4, e5⟩
        · refine Or.inl (Or.inr ?_)
          exact ⟨v, tp, [.ty n, .ty m], .type t, [.type n, .type m], isTyB t n || isTyB t m, rfl, tt, .cons (ClsV.ty n) (.cons (ClsV.ty m) .nil), T, kit2 hT hn hm, q⟩
        · refine Or.inr ?_
          refine ⟨v, tp, o.dict, [.type n, .type m], n', o.slots, .type t, isTyB t n || isTyB t m, rfl, ?_, T, kit2 hT hn hm, q⟩
          have hi : its = [Value.type n, Value.type m].toArray := by rw [← its_of e5]
          rw [e1]
          obtain ⟨c1, c2, c3, c4⟩ := o
          simp only at e2 e3 ⊢
          subst e2 e3
          rw [hi]
    · cases e
  · cases e

/-! ### methods of lists -/
def eMth (f : W → FX) (m : EX) (n : AX) : EX := fun env st => (m env st).bind fun x s1 => (n env s1).bind fun xs s2 => f x xs s2
def mAppend : W → FX := fun x ws st => match x, ws with
  | .ls n, [w] => match st[n]? with
    | some (.lst xs) => if xs.length < 100000 then .ok .non (st.set n (.lst (xs ++ [w]))) else .err
    | none => .err
  | _, _ => .err
def mExtend : W → FX := fun x ws st => match x, ws with
  | .ls n, [.ls m] => match st[n]?, st[m]? with
    | some (.lst xs), some (.lst ys) => if xs.length + ys.length ≤ 100000 then .ok .non (st.set n (.lst (xs ++ ys))) else .err
    | _, _ => .err
  | _, _ => .err
def mPop : W → FX := fun x ws st => match x, ws with
  | .ls n, [] => match st[n]? with
    | some (.lst xs) => match xs[xs.length - 1]? with
      | some w => .ok w (st.set n (.lst xs.dropLast))
      | none => .err
    | none => .err
  | .ls n, [.int i] => match st[n]? with
    | some (.lst xs) => match ixN xs.length i with
      | some j => match xs[j]? with
        | some w => if -1000000 ≤ i ∧ i ≤ 1000000 then .ok w (st.set n (.lst (xs.eraseIdx j))) else .err
        | none => .err
      | none => .err
    | none => .err
  | _, _ => .err
theorem Reps.dropLast {K : PySem.W.Frag} {μ : Nat → Addr} {L : Nat} {H : Hp} {vs : List V} {ws : List W} (r : Reps K μ L H vs ws) : Reps K μ L H vs.dropLast ws.dropLast := by
  rw [List.dropLast_eq_take, List.dropLast_eq_take, r.length]
  exact r.take _
theorem Reps.eraseIdx {K : PySem.W.Frag} {μ : Nat → Addr} {L : Nat} {H : Hp} {vs : List V} {ws : List W} (r : Reps K μ L H vs ws) (j : Nat) : Reps K μ L H (vs.eraseIdx j) (ws.eraseIdx j) := by
  rw [List.eraseIdx_eq_take_drop_succ, List.eraseIdx_eq_take_drop_succ]
  exact (r.take _).append (r.drop _)
theorem m_append : MtR X "list.append" (lM X.K mAppend) := mt_imp mt_append fun x vs H Q ⟨μ, st, a, ws, w, st', S, ra, rs, e, k⟩ => by
  cases a with
  | ls n =>
    obtain ⟨rfl, hn⟩ := rep_ls ra
    match ws, rs, e with
    | [y], .cons r .nil, e =>
      simp only [mAppend] at e
      split at e
      · rename_i xs e1
        split at e
        · rename_i hz
          cases e
          obtain ⟨us, q1, r1⟩ := S.lstAt e1
          exact ⟨_, us, _, rfl, rfl, q1, by rw [r1.length]; exact line_lt hz, k.put S e1 q1 (r1.append (.cons r .nil)) .non⟩
        · cases e
      · cases e
  | _ => cases e
theorem m_extend : MtR X "list.extend" (lM X.K mExtend) := mt_imp mt_extend fun x vs H Q ⟨μ, st, a, ws, w, st', S, ra, rs, e, k⟩ => by
  cases a with
  | ls n =>
    obtain ⟨rfl, hn⟩ := rep_ls ra
    match ws, rs, e with
    | [.ls m], .cons r .nil, e =>
      obtain ⟨rfl, hm⟩ := rep_ls r
      simp only [mExtend] at e
      split at e
      · rename_i xs ys e1 e2
        split at e
        · rename_i hz
          cases e
          obtain ⟨us, q1, r1⟩ := S.lstAt e1
          obtain ⟨zs, q2, r2⟩ := S.lstAt e2
          exact ⟨_, _, us, zs, rfl, rfl, q1, q2, by rw [r1.length, r2.length]; exact line_of hz, k.put S e1 q1 (r1.append r2) .non⟩
        · cases e
      · cases e
  | _ => cases e
theorem m_pop : MtR X "list.pop" (lM X.K mPop) := mt_imp (MtR.or mt_pop mt_popAt) fun x vs H Q ⟨μ, st, a, ws, w, st', S, ra, rs, e, k⟩ => by
  cases a with
  | ls n =>
    obtain ⟨rfl, hn⟩ := rep_ls ra
    match ws, rs, e with
    | [], .nil, e =>
      simp only [mPop] at e
      split at e
      · rename_i xs e1
        split at e
        · rename_i h1
          cases e
          obtain ⟨us, q1, r1⟩ := S.lstAt e1
          obtain ⟨v, h2, h3⟩ := r1.get h1
          exact .inl ⟨_, us, v, rfl, rfl, q1, by rw [r1.length]; exact h2, k.put S e1 q1 r1.dropLast (h3.nxt (Nxt.put hn q1))⟩
        · cases e
      · cases e
    | [.int i], .cons r .nil, e =>
      have := rep_int r; subst this
      simp only [mPop] at e
      split at e
      · rename_i xs e1
        split at e
        · rename_i j hj
          split at e
          · rename_i h1
            split at e
            · rename_i hz
              cases e
              obtain ⟨us, q1, r1⟩ := S.lstAt e1
              obtain ⟨v, h2, h3⟩ := r1.get h1
              obtain ⟨g1, _⟩ := ixN_seq hj
              exact .inr ⟨_, us, i, j, v, rfl, rfl, q1, by omega, by omega, by rw [r1.length]; exact g1, h2, k.put S e1 q1 (r1.eraseIdx j) (h3.nxt (Nxt.put hn q1))⟩
            · cases e
          · cases e
        · cases e
      · cases e
  | _ => cases e
theorem ty_ls {K : PySem.W.Frag} {μ : Nat → Addr} {H : Hp} {st : Sto} {v : V} {n : Nat} (S : Sim K μ st H) (r : Rep K μ st.length H v (.ls n)) : tyV K "list" v H := by
  obtain ⟨rfl, hn⟩ := rep_ls r
  obtain ⟨xs, q⟩ := S.isL hn
  exact .inl ⟨rfl, xs, .inl (.inl q)⟩
/-- the receiver is a list -/
def onLs (f : W → FX) : W → FX := fun x ws st => match x with
  | .ls n => f (.ls n) ws st
  | _ => .err
theorem mth_run {f : W → FX} {m : EX} {n : AX} {σ : L2.St} {H : Hp} {Q : VK} (h : lE X.K (eMth f m n) σ H Q) (hf : ∀ x ws st w st', f x ws st = .ok w st' → ∃ k, x = .ls k) :
    tBM X.K "list" (lM X.K f) (lE X.K m) (lA X.K n) σ H Q := by
  obtain ⟨μ, env, st, w, st', S, E, h, k⟩ := h
  obtain ⟨x, s1, h1, h2⟩ := R.bind_ok h
  obtain ⟨xs, s2, h3, h4⟩ := R.bind_ok h2
  obtain ⟨j, rfl⟩ := hf _ _ _ _ _ h4
  exact ⟨μ, env, st, _, s1, S, E, h1, fun μ1 H1 v N1 S1 r1 => ⟨ty_ls S1 r1, μ1, env, s1, xs, s2, S1, E.nxt N1, h3, fun μ2 H2 vs N2 S2 r2 => ⟨μ2, s2, _, xs, w, st', S2, r1.nxt N2, r2, h4, k.mono (N1.trans N2)⟩⟩⟩
theorem mAppend_ls {x : W} {ws : List W} {st : Sto} {w : W} {st' : Sto} (h : mAppend x ws st = .ok w st') : ∃ k, x = .ls k := by
  cases x with
  | ls k => exact ⟨k, rfl⟩
  | _ => cases h
theorem mExtend_ls {x : W} {ws : List W} {st : Sto} {w : W} {st' : Sto} (h : mExtend x ws st = .ok w st') : ∃ k, x = .ls k := by
  cases x with
  | ls k => exact ⟨k, rfl⟩
  | _ => cases h
theorem mPop_ls {x : W} {ws : List W} {st : Sto} {w : W} {st' : Sto} (h : mPop x ws st = .ok w st') : ∃ k, x = .ls k := by
  cases x with
  | ls k => exact ⟨k, rfl⟩
  | _ => cases h
variable {es : List Expr} {apos cpos : Pos}
theorem re_append {m : EX} {n : AX} (ho : RE X a m) (ha : RA X (b :: es) n)
    (hbase : attributeBase a "append" X.env (eval a X.env) = eval a X.env := by rfl)
    (hfew : ((backTo cpos (starEach (b :: es) X.env)).all (fun x => !x.1) && (backToKw cpos (keywordEach [] X.env)).all (fun x => x.1.isSome)
      && decide ((b :: es).length + ([] : List Keyword).length + (if ([] : List Keyword).isEmpty then 0 else 1) < 30)) = true := by rfl)
    (hline : (apos.endLine == cpos.line) = true := by rfl) (hs : starEach (b :: es) X.env = (false, eval b X.env) :: starEach es X.env := by rfl) (hplain : (backTo cpos (starEach es X.env)).any (·.1) = false := by rfl) :
    RE X (.Call (.Attribute a "append" apos) (b :: es) [] cpos) (eMth mAppend m n) :=
  pe_imp (pe_bm PySem.F.plainAttrs_list PySem.F.slot_list_append PySem.F.type_list_append m_append ho ha hbase hfew hline hs hplain) fun σ H Q h => mth_run h fun _ _ _ _ _ => mAppend_ls
theorem re_extend {m : EX} {n : AX} (ho : RE X a m) (ha : RA X (b :: es) n)
    (hbase : attributeBase a "extend" X.env (eval a X.env) = eval a X.env := by rfl)
    (hfew : ((backTo cpos (starEach (b :: es) X.env)).all (fun x => !x.1) && (backToKw cpos (keywordEach [] X.env)).all (fun x => x.1.isSome)
      && decide ((b :: es).length + ([] : List Keyword).length + (if ([] : List Keyword).isEmpty then 0 else 1) < 30)) = true := by rfl)
    (hline : (apos.endLine == cpos.line) = true := by rfl) (hs : starEach (b :: es) X.env = (false, eval b X.env) :: starEach es X.env := by rfl) (hplain : (backTo cpos (starEach es X.env)).any (·.1) = false := by rfl) :
    RE X (.Call (.Attribute a "extend" apos) (b :: es) [] cpos) (eMth mExtend m n) :=
  pe_imp (pe_bm PySem.F.plainAttrs_list PySem.F.slot_list_extend PySem.F.type_list_extend m_extend ho ha hbase hfew hline hs hplain) fun σ H Q h => mth_run h fun _ _ _ _ _ => mExtend_ls
theorem re_popAt {m : EX} {n : AX} (ho : RE X a m) (ha : RA X (b :: es) n)
    (hbase : attributeBase a "pop" X.env (eval a X.env) = eval a X.env := by rfl)
    (hfew : ((backTo cpos (starEach (b :: es) X.env)).all (fun x => !x.1) && (backToKw cpos (keywordEach [] X.env)).all (fun x => x.1.isSome)
      && decide ((b :: es).length + ([] : List Keyword).length + (if ([] : List Keyword).isEmpty then 0 else 1) < 30)) = true := by rfl)
    (hline : (apos.endLine == cpos.line) = true := by rfl) (hs : starEach (b :: es) X.env = (false, eval b X.env) :: starEach es X.env := by rfl) (hplain : (backTo cpos (starEach es X.env)).any (·.1) = false := by rfl) :
    RE X (.Call (.Attribute a "pop" apos) (b :: es) [] cpos) (eMth mPop m n) :=
  pe_imp (pe_bm PySem.F.plainAttrs_list PySem.F.slot_list_pop PySem.F.type_list_pop m_pop ho ha hbase hfew hline hs hplain) fun σ H Q h => mth_run h fun _ _ _ _ _ => mPop_ls
theorem re_pop {m : EX} (ho : RE X a m) (hbase : attributeBase a "pop" X.env (eval a X.env) = eval a X.env := by rfl) (hline : (apos.endLine == cpos.line) = true := by rfl) :
    RE X (.Call (.Attribute a "pop" apos) [] [] cpos) (eMth mPop m aNil) :=
  pe_imp (pe_bm0 PySem.F.plainAttrs_list PySem.F.slot_list_pop PySem.F.type_list_pop m_pop ho hbase hline) fun σ H Q ⟨μ, env, st, w, st', S, E, h, k⟩ => by
    obtain ⟨x, s1, h1, h2⟩ := R.bind_ok h
    obtain ⟨xs, s2, h3, h4⟩ := R.bind_ok h2
    cases h3
    obtain ⟨j, rfl⟩ := mPop_ls h4
    exact ⟨μ, env, st, _, s1, S, E, h1, fun μ1 H1 v N1 S1 r1 => ⟨ty_ls S1 r1, μ1, s1, _, [], w, st', S1, r1, .nil, h4, k.mono N1⟩⟩

/-! ### o[i] = v -/
def fSet : W → W → W → Sto → R Unit := fun o i v st => match o, i with
  | .ls n, .int k => match st[n]? with
    | some (.lst xs) => match ixN xs.length k with
      | some j => .ok () (st.set n (.lst (xs.set j v)))
      | none => .err
    | none => .err
  | _, _ => .err
def lSet (K : PySem.W.Frag) : TSet := fun o i v H Q => ∃ μ st a b w st', Sim K μ st H ∧ Rep K μ st.length H o a ∧ Rep K μ st.length H i b ∧ Rep K μ st.length H v w ∧ fSet a b w st = .ok () st' ∧ ∀ H', Nxt K μ st.length H μ st'.length H' → Sim K μ st' H' → Q H'
theorem s_set : PSet X (lSet X.K) := fun pins s σ H o i v ov iv u Q I ro ri rv ⟨μ, st, a, b, w, st', S, ra, rb, rw', e, k⟩ => by
  refine set_list pins s σ H o i v ov iv u Q I ro ri rv ?_
  cases a with
  | ls n =>
    obtain ⟨rfl, hn⟩ := rep_ls ra
    cases b with
    | int kk =>
      have := rep_int rb; subst this
      simp only [fSet] at e
      split at e
      · rename_i xs e1
        split at e
        · rename_i j hj
          cases e
          obtain ⟨us, q1, r1⟩ := S.lstAt e1
          refine ⟨_, us, kk, j, rfl, rfl, q1, by rw [r1.length]; exact hj, ?_⟩
          refine k _ ?_ (S.put e1 q1 (r1.set rw' j))
          rw [List.length_set]
          exact Nxt.put hn q1
        · cases e
      · cases e
    | _ => cases e
  | _ => cases e
end
end Rx

/-! RxE: targets, what is walked, statements, loops, comprehensions. -/
namespace Rx
open PySem PySem.Spec PyProof.Rows L2

section
variable {X : Cx} {e a b c tg : Expr} {pos : Pos}

/-! ### targets -/
/-- a name; several names -/
inductive Pat where
  | nm (i : Nat) | tp (is : List Nat)
def setAll : List Nat → List W → Env' → Option Env'
  | [], [], env => some env
  | i :: is, w :: ws, env => setAll is ws (env.set i (some w))
  | _, _, _ => none
def Pat.set (p : Pat) (w : W) (st : Sto) (env : Env') : Option Env' := match p with
  | .nm i => some (env.set i (some w))
  | .tp is => match seqW st w with
    | some ws => setAll is ws env
    | none => none
def Pat.slots : Pat → List Nat
  | .nm i => [i]
  | .tp is => is
def gNms : List Nat → TGs
  | [] => gNil
  | i :: is => gCons (gName i) (gNms is)
def gPat (K : PySem.W.Frag) : Pat → TG
  | .nm i => gName i
  | .tp is => fun v σ H Q => gTup K is.length (gNms is) v σ H Q ∨ gUnl K is.length (gNms is) v σ H Q
abbrev RG (X : Cx) (e : Expr) (p : Pat) : Prop := PG X e (gPat X.K p)
theorem rg_name {i : Nat} {x : Str} (h : Lo X i x) : RG X (.Name x pos) (.nm i) := pg_name h.2.2.2 h.1 h.2.1 h.2.2.1
theorem rgs_nil : PGs X [] (gNms []) := pgs_nil
theorem rgs_cons {i : Nat} {is : List Nat} {x : Str} {es : List Expr} (h : Lo X i x) (h2 : PGs X es (gNms is))
    (hs : (assignEach (.Name x pos :: es) X.env).map (·.2) = assign (.Name x pos) X.env :: (assignEach es X.env).map (·.2) := by rfl) : PGs X (.Name x pos :: es) (gNms (i :: is)) := pgs_cons (pg_name h.2.2.2 h.1 h.2.1 h.2.2.1) h2 hs
theorem rg_tup {N : List Str} {sc : Scope} (hX : In X N sc) {es : List Expr} {k : Nat} {is : List Nat} (h : PGs X es (gNms is)) (hn : (assignEach es X.env).length = is.length := by rfl) (hst : (assignEach es X.env).findIdx? (·.1) = none := by rfl) : RG X (.Tuple es k pos) (.tp is) :=
  ⟨fun pins s σ H v u Q I r q => by
    rcases q with q | q
    · exact (pg_tup (k := k) (pos := pos) hX.calm h hn hst).run pins s σ H v u Q I r q
    · exact (pg_unl (k := k) (pos := pos) hX.calm h hn hst).run pins s σ H v u Q I r q⟩
/-- forgetting what stands in slots -/
def wipeE (env : Env') : List Nat → Env'
  | [] => env
  | v :: vs => (wipeE env vs).set v none
theorem wipeE_length (env : Env') : ∀ vs : List Nat, (wipeE env vs).length = env.length
  | [] => rfl
  | v :: vs => by unfold wipeE; rw [List.length_set, wipeE_length env vs]
theorem EnvR.wipe {K : PySem.W.Frag} {μ : Nat → Addr} {L : Nat} {H : Hp} {env : Env'} {σ : L2.St} (E : EnvR K μ L H env σ) : ∀ vs : List Nat, EnvR K μ L H (wipeE env vs) (L2.wipe σ vs)
  | [] => E
  | v :: vs => by
    have ih := E.wipe vs
    refine ⟨by unfold wipeE L2.wipe; rw [List.length_set, List.length_set]; exact ih.len, fun i w h => ?_⟩
    unfold wipeE at h
    unfold L2.wipe
    by_cases hi : v = i
    · subst hi
      by_cases hv : v < (wipeE env vs).length
      · rw [List.getElem?_set_self hv] at h; cases h
      · rw [List.getElem?_eq_none (by simpa using hv)] at h; cases h
    · rw [List.getElem?_set_ne hi] at h ⊢
      exact ih.at_ i w h
theorem wipe_set {i : Nat} {v : V} : ∀ {vs : List Nat} {σ : L2.St}, i ∈ vs → L2.wipe (σ.set i (some v)) vs = L2.wipe σ vs
  | [], _, h => by cases h
  | j :: vs, σ, h => by
    unfold L2.wipe
    by_cases hi : i ∈ vs
    · rw [wipe_set hi]
    · have hj : i = j := by
        rcases List.mem_cons.mp h with h | h
        · exact h
        · exact absurd h hi
      subst hj
      apply List.ext_getElem?
      intro k
      by_cases hk : i = k
      · subst hk
        by_cases hl : i < (L2.wipe σ vs).length
        · rw [List.getElem?_set_self hl, List.getElem?_set_self (by rw [wipe_length, List.length_set]; rw [wipe_length] at hl; exact hl)]
        · rw [List.getElem?_eq_none (by rw [List.length_set, wipe_length, List.length_set]; rw [wipe_length] at hl; omega), List.getElem?_eq_none (by rw [List.length_set]; omega)]
      · rw [List.getElem?_set_ne hk, List.getElem?_set_ne hk]
        by_cases hkv : k ∈ vs
        · have none_of : ∀ {τ : L2.St}, (L2.wipe τ vs)[k]? = if k < τ.length then some none else none := by
            intro τ
            have hl := wipe_length τ vs
            by_cases hk2 : k < τ.length
            · rw [if_pos hk2]
              have h1 : k < (L2.wipe τ vs).length := by rw [hl]; exact hk2
              rw [List.getElem?_eq_getElem h1]
              cases e : (L2.wipe τ vs)[k] with
              | none => rfl
              | some y =>
                have := (wipe_some (σ := τ) (i := k) (x := y) (vs := vs) (by rw [List.getElem?_eq_getElem h1, e])).2
                exact absurd hkv this
            · rw [if_neg hk2, List.getElem?_eq_none (by rw [hl]; omega)]
          rw [none_of, none_of, List.length_set]
        · rw [wipe_out hkv, wipe_out hkv, List.getElem?_set_ne hk]
theorem gNms_run {K : PySem.W.Frag} {μ : Nat → Addr} {L : Nat} {H : Hp} {Q : L2.St → Hp → Prop} {vs0 : List Nat} : ∀ {is : List Nat} {vs : List V} {ws : List W} {env env' : Env'} {σ : L2.St}, EnvR K μ L H env σ → Reps K μ L H vs ws → setAll is ws env = some env' →
    (∀ σ', EnvR K μ L H env' σ' → ((∀ i ∈ is, i ∈ vs0) → L2.wipe σ' vs0 = L2.wipe σ vs0) → Q σ' H) → gNms is vs σ H Q
  | [], _, _, env, env', σ, E, r, h, k => by
    cases r with
    | nil => cases h; exact ⟨rfl, k σ E fun _ => rfl⟩
    | cons _ _ => cases h
  | i :: is, _, _, env, env', σ, E, r, h, k => by
    cases r with
    | nil => cases h
    | cons r rs =>
      refine ⟨_, _, rfl, ?_⟩
      show gNms is _ (σ.set i (some _)) H Q
      refine gNms_run (vs0 := vs0) (E.set r i) rs h fun σ' E' hw => k σ' E' fun hm => ?_
      rw [hw fun j hj => hm j (List.mem_cons_of_mem _ hj)]
      exact wipe_set (hm i List.mem_cons_self)
theorem setAll_len : ∀ {is : List Nat} {ws : List W} {env env' : Env'}, setAll is ws env = some env' → ws.length = is.length
  | [], [], _, _, _ => rfl
  | [], _ :: _, _, _, h => by cases h
  | _ :: _, [], _, _, h => by cases h
  | _ :: is, _ :: ws, _, _, h => by simp [setAll_len (is := is) h]
/-- the target's reading -/
theorem gPat_run {K : PySem.W.Frag} {μ : Nat → Addr} {st : Sto} {H : Hp} {Q : L2.St → Hp → Prop} {vs0 : List Nat} {p : Pat} {v : V} {w : W} {env env' : Env'} {σ : L2.St} (S : Sim K μ st H) (E : EnvR K μ st.length H env σ) (r : Rep K μ st.length H v w) (h : p.set w st env = some env')
    (k : ∀ σ', EnvR K μ st.length H env' σ' → ((∀ i ∈ p.slots, i ∈ vs0) → L2.wipe σ' vs0 = L2.wipe σ vs0) → Q σ' H) : gPat K p v σ H Q := by
  cases p with
  | nm i =>
    cases h
    exact k _ (E.set r i) fun hm => wipe_set (hm i (by simp [Pat.slots]))
  | tp is =>
    unfold Pat.set at h
    simp only [] at h
    split at h
    · rename_i ws h1
      obtain ⟨a, vs, rfl, q, r1⟩ := seqW_ok S r h1
      have hl : vs.length = is.length := by rw [r1.length]; exact setAll_len h
      rcases q with q | q
      · exact .inr ⟨a, vs, rfl, q, hl, gNms_run E r1 h k⟩
      · exact .inl ⟨a, vs, rfl, q.sq, hl, gNms_run E r1 h k⟩
    · cases h

/-! ### what is walked -/
inductive Src where
  | fix (xs : List W) | lv (n : Nat) | en (n : Nat) | zp (n m : Nat)
def lsAt (st : Sto) (n i : Nat) : Option W := match st[n]? with
  | some (.lst xs) => xs[i]?
  | none => none
def Src.at (src : Src) (i : Nat) (st : Sto) : Option W := match src with
  | .fix xs => xs[i]?
  | .lv n => lsAt st n i
  | .en n => match lsAt st n i with
    | some w => some (.tup [.int i, w])
    | none => none
  | .zp n m => match lsAt st n i, lsAt st m i with
    | some w, some u => some (.tup [w, u])
    | _, _ => none
/-- an iterator goes as told -/
def SrcOk (K : PySem.W.Frag) (J : It) (src : Src) (μ : Nat → Addr) (L : Nat) (H : Hp) : Prop := ∀ μ' st' H', Nxw K μ L H μ' st'.length H' → Sim K μ' st' H' → ∀ i, match src.at i st' with
  | none => J.stop i H'
  | some w => J.go i H' ∧ ∀ x H'', J.yld i H' x H'' → Nxt K μ' st'.length H' μ' st'.length H'' ∧ Sim K μ' st' H'' ∧ Rep K μ' st'.length H'' x w
theorem SrcOk.mono {K : PySem.W.Frag} {J : It} {src : Src} {μ μ1 : Nat → Addr} {L L1 : Nat} {H H1 : Hp} (h : SrcOk K J src μ L H) (n : Nxw K μ L H μ1 L1 H1) : SrcOk K J src μ1 L1 H1 := fun μ' st' H' N S => h μ' st' H' (n.trans N) S
abbrev IX := Env' → Sto → R Src
def lI (K : PySem.W.Frag) (m : IX) : TI := fun σ H R => ∃ μ env st src st', Sim K μ st H ∧ EnvR K μ st.length H env σ ∧ m env st = .ok src st' ∧ ∀ J μ' H', Nxt K μ st.length H μ' st'.length H' → Sim K μ' st' H' → SrcOk K J src μ' st'.length H' → R J H'
abbrev RI (X : Cx) (tg iter : Expr) (m : IX) : Prop := PI X tg iter (lI X.K m)
theorem pi_imp {t t' : TI} (h : PI X tg e t) (i : ∀ σ H R, t' σ H R → t σ H R) : PI X tg e t' := ⟨fun pins s σ H R I q => h.run pins s σ H R I (i σ H R q)⟩
/-- by the value: a list or a tuple -/
def iSeq (K : PySem.W.Frag) (tl : TE) : TI := fun σ H R => tl σ H fun x H1 => ∃ a, x = .ref a ∧ ((∃ xs, SqL K H1 a xs) ∧ R (Itl K a) H1 ∨ (∃ xs, SqT K H1 a xs) ∧ R (Itt K a) H1)
theorem pi_seq {l : Expr} {tl : TE} (hl : PE X l tl) : PI X tg l (iSeq X.K tl) := by
  refine ⟨fun pins s σ H R I h => ?_⟩
  refine thn (hl.run pins s σ H _ I h) fun v s1 ⟨x, H1, I1, r1, q1⟩ => ?_
  obtain ⟨a, e, q⟩ := q1
  subst e
  cases r1
  rcases q with ⟨⟨xs, hq⟩, q⟩ | ⟨⟨xs, hq⟩, q⟩
  · obtain ⟨its, rv, p, hz⟩ := I1.list hq
    refine wpAny_pyIter_list p.isList ?_
    refine ⟨s1.heap.objs.size, [s1.heap.objs.size], _, _, H1, rfl, I1.kept (t' := s1.toks) fun b o e => Heap.get?_push_of_some _ e, turn_list a _, ⟨_, Heap.get?_push_size _ rfl, rfl, rfl⟩, fun b hb => ?_, q⟩
    have e : b = s1.heap.objs.size := by simpa using hb
    subst e
    exact I1.fpOk (Nat.le_refl _) (I1.hok.fresh (Nat.le_refl _))
  · obtain ⟨its, rv, p, hz⟩ := I1.tuple hq
    refine wpAny_pyIter_tuple (show s1.heap.IsTuple a its.toArray from p) ?_
    refine ⟨s1.heap.objs.size, [s1.heap.objs.size], _, _, H1, rfl, I1.kept (t' := s1.toks) fun b o e => Heap.get?_push_of_some _ e, turn_tuple a _, ⟨_, Heap.get?_push_size _ rfl, rfl, rfl⟩, fun b hb => ?_, q⟩
    have e : b = s1.heap.objs.size := by simpa using hb
    subst e
    exact I1.fpOk (Nat.le_refl _) (I1.hok.fresh (Nat.le_refl _))
section
variable {K : PySem.W.Frag} {μ : Nat → Addr} {st : Sto} {H : Hp}
theorem src_tup {a : Addr} {vs : List V} {ws : List W} (t : Tp K H a vs) (r : Reps K μ st.length H vs ws) : SrcOk K (Itt K a) (.fix ws) μ st.length H := fun μ' st' H' N S i => by
  have t' := (N.tp _ _ t).sq
  have r' := r.nxw N
  show match ws[i]? with
    | none => (Itt K a).stop i H'
    | some w => _
  cases e : ws[i]? with
  | none => exact ⟨vs, t', by rw [r.length]; exact List.getElem?_eq_none_iff.mp e⟩
  | some w =>
    obtain ⟨v, h1, h2⟩ := r'.get e
    refine ⟨⟨vs, v, t', h1⟩, fun x H'' y => ?_⟩
    obtain ⟨rfl, y⟩ := y
    have : x = v := Option.some.inj ((y vs t').symm.trans h1)
    subst this
    exact ⟨Nxt.refl, S, h2⟩
theorem src_frz {a : Addr} {ns : List Int} (t : Fz K H a ns) : SrcOk K (Itl K a) (.fix (ns.map W.int)) μ st.length H := fun μ' st' H' N S i => by
  have t' := (N.fz _ _ t).sq
  have r' : Reps K μ' st'.length H' (ns.map V.int) (ns.map W.int) := Reps.ints
  show match (ns.map W.int)[i]? with
    | none => (Itl K a).stop i H'
    | some w => _
  cases e : (ns.map W.int)[i]? with
  | none => exact ⟨_, t', by have := List.getElem?_eq_none_iff.mp e; simpa using this⟩
  | some w =>
    obtain ⟨v, h1, h2⟩ := r'.get e
    refine ⟨⟨_, v, t', h1⟩, fun x H'' y => ?_⟩
    obtain ⟨rfl, y⟩ := y
    have : x = v := Option.some.inj ((y _ t').symm.trans h1)
    subst this
    exact ⟨Nxt.refl, S, h2⟩
theorem src_lv {n : Nat} (hn : n < st.length) : SrcOk K (Itl K (μ n)) (.lv n) μ st.length H := fun μ' st' H' N S i => by
  have hn' : n < st'.length := Nat.lt_of_lt_of_le hn N.le
  have e1 : st'[n]? = some st'[n] := by simp [hn']
  obtain ⟨xs, ex⟩ : ∃ xs, st'[n] = .lst xs := by
    cases st'[n] with
    | lst xs => exact ⟨xs, rfl⟩
  rw [ex] at e1
  obtain ⟨vs, h1, r⟩ := S.lstAt e1
  rw [N.mu n hn] at h1
  have t' : SqL K H' (μ n) vs := .inl (.inl h1)
  show match lsAt st' n i with
    | none => (Itl K (μ n)).stop i H'
    | some w => _
  have e2 : lsAt st' n i = xs[i]? := by unfold lsAt; rw [e1]
  rw [e2]
  cases e : xs[i]? with
  | none => exact ⟨vs, t', by rw [r.length]; exact List.getElem?_eq_none_iff.mp e⟩
  | some w =>
    obtain ⟨v, h2, h3⟩ := r.get e
    refine ⟨⟨vs, v, t', h2⟩, fun x H'' y => ?_⟩
    obtain ⟨rfl, y⟩ := y
    have : x = v := Option.some.inj ((y vs t').symm.trans h2)
    subst this
    exact ⟨Nxt.refl, S, h3⟩
end
def iOf (m : EX) : IX := fun env st => (m env st).bind fun x s1 => match x with
  | .tup xs => .ok (.fix xs) s1
  | .ls n => .ok (.lv n) s1
  | .frz ns => .ok (.fix (ns.map W.int)) s1
  | _ => .err
theorem ri_of {m : EX} (h : RE X e m) : RI X tg e (iOf m) := pi_imp (pi_seq h) fun σ H R0 ⟨μ, env, st, src, st', S, E, h, k⟩ => by
  obtain ⟨x, s1, h1, h2⟩ := R.bind_ok h
  refine ⟨μ, env, st, x, s1, S, E, h1, fun μ1 H1 v N1 S1 r1 => ?_⟩
  cases x with
  | tup xs =>
    cases h2
    obtain ⟨a, vs, rfl, t, r⟩ := rep_tup r1
    exact ⟨a, rfl, .inr ⟨⟨vs, t.sq⟩, k _ _ _ N1 S1 (src_tup t r)⟩⟩
  | ls n =>
    cases h2
    obtain ⟨rfl, hn⟩ := rep_ls r1
    obtain ⟨xs, q⟩ := S1.isL hn
    exact ⟨_, rfl, .inl ⟨⟨xs, .inl (.inl q)⟩, k _ _ _ N1 S1 (src_lv hn)⟩⟩
  | frz ns =>
    cases h2
    obtain ⟨a, rfl, f⟩ := rep_frz r1
    exact ⟨a, rfl, .inl ⟨⟨_, f.sq⟩, k _ _ _ N1 S1 (src_frz f)⟩⟩
  | _ => cases h2
/-- whole numbers from lo on, by steps of c -/
def rngW (lo c : Int) : Nat → List W
  | 0 => []
  | n + 1 => .int lo :: rngW (lo + c) c n
theorem rngW_get : ∀ (n : Nat) (lo c : Int) (i : Nat), (rngW lo c n)[i]? = if i < n then some (.int (lo + (i : Nat) * c)) else none
  | 0, _, _, _ => by simp [rngW]
  | n + 1, lo, c, 0 => by simp [rngW]
  | n + 1, lo, c, i + 1 => by
    simp only [rngW, List.getElem?_cons_succ]
    rw [rngW_get n (lo + c) c i]
    by_cases h : i < n
    · rw [if_pos h, if_pos (by omega)]
      have : lo + c + (i : Int) * c = lo + ((i + 1 : Nat) : Int) * c := by
        push_cast
        rw [Int.add_mul]
        omega
      rw [this]
    · rw [if_neg h, if_neg (by omega)]
def rngOk (i : Int) : Bool := decide (-1000000000 ≤ i) && decide (i ≤ 1000000000)
theorem rngOk_ok {i : Int} (h : rngOk i = true) : -(2 ^ 62) ≤ i ∧ i < 2 ^ 62 := by
  unfold rngOk at h
  simp only [Bool.and_eq_true, decide_eq_true_eq] at h
  omega
def iRange (n : AX) : IX := fun env st => (n env st).bind fun ws s1 => match ws with
  | [.int j] => if rngOk j = true then .ok (.fix (rngW 0 1 j.toNat)) s1 else .err
  | [.int i, .int j] => if rngOk i = true ∧ rngOk j = true then .ok (.fix (rngW i 1 (j - i).toNat)) s1 else .err
  | [.int i, .int j, .int c] => if rngOk i = true ∧ rngOk j = true ∧ c = -1 then .ok (.fix (rngW i (-1) (i - j).toNat)) s1 else .err
  | _ => .err
theorem src_rng {K : PySem.W.Frag} {μ : Nat → Addr} {st : Sto} {H : Hp} {lo : Int} {n : Nat} : SrcOk K (Itr lo n) (.fix (rngW lo 1 n)) μ st.length H := fun μ' st' H' N S i => by
  show match (rngW lo 1 n)[i]? with
    | none => (Itr lo n).stop i H'
    | some w => _
  rw [rngW_get]
  by_cases h : i < n
  · rw [if_pos h]
    refine ⟨h, fun x H'' y => ?_⟩
    obtain ⟨rfl, rfl⟩ := y
    rw [Int.mul_one]
    exact ⟨Nxt.refl, S, .int _⟩
  · rw [if_neg h]
    exact Nat.le_of_not_lt h
theorem src_rngC {K : PySem.W.Frag} {μ : Nat → Addr} {st : Sto} {H : Hp} {lo c : Int} {n : Nat} : SrcOk K (Itc lo c n) (.fix (rngW lo c n)) μ st.length H := fun μ' st' H' N S i => by
  show match (rngW lo c n)[i]? with
    | none => (Itc lo c n).stop i H'
    | some w => _
  rw [rngW_get]
  by_cases h : i < n
  · rw [if_pos h]
    refine ⟨h, fun x H'' y => ?_⟩
    obtain ⟨rfl, rfl⟩ := y
    exact ⟨Nxt.refl, S, .int _⟩
  · rw [if_neg h]
    exact Nat.le_of_not_lt h
theorem args1 {K : PySem.W.Frag} {μ : Nat → Addr} {L : Nat} {H : Hp} {vs : List V} {j : Int} (r : Reps K μ L H vs [.int j]) : vs = [.int j] := by
  match vs, r with
  | [x], .cons r1 .nil => rw [rep_int r1]
theorem args2 {K : PySem.W.Frag} {μ : Nat → Addr} {L : Nat} {H : Hp} {vs : List V} {i j : Int} (r : Reps K μ L H vs [.int i, .int j]) : vs = [.int i, .int j] := by
  match vs, r with
  | [x, y], .cons r1 (.cons r2 .nil) => rw [rep_int r1, rep_int r2]
theorem args3 {K : PySem.W.Frag} {μ : Nat → Addr} {L : Nat} {H : Hp} {vs : List V} {i j k : Int} (r : Reps K μ L H vs [.int i, .int j, .int k]) : vs = [.int i, .int j, .int k] := by
  match vs, r with
  | [x, y, z], .cons r1 (.cons r2 (.cons r3 .nil)) => rw [rep_int r1, rep_int r2, rep_int r3]
theorem cons1 {m : EX} {env : Env'} {st st' : Sto} {ws : List W} (h : aCons m aNil env st = .ok ws st') : ∃ w, ws = [w] ∧ m env st = .ok w st' := by
  obtain ⟨x, s1, h1, h2⟩ := R.bind_ok h
  obtain ⟨xs, s2, h3, h4⟩ := R.bind_ok h2
  cases h3
  cases h4
  exact ⟨x, rfl, h1⟩
theorem cons2 {m n : EX} {env : Env'} {st st' : Sto} {ws : List W} (h : aCons m (aCons n aNil) env st = .ok ws st') : ∃ w u, ws = [w, u] := by
  obtain ⟨x, s1, h1, h2⟩ := R.bind_ok h
  obtain ⟨xs, s2, h3, h4⟩ := R.bind_ok h2
  obtain ⟨u, rfl, _⟩ := cons1 h3
  cases h4
  exact ⟨x, u, rfl⟩
theorem cons3 {m n o : EX} {env : Env'} {st st' : Sto} {ws : List W} (h : aCons m (aCons n (aCons o aNil)) env st = .ok ws st') : ∃ w u z, ws = [w, u, z] := by
  obtain ⟨x, s1, h1, h2⟩ := R.bind_ok h
  obtain ⟨xs, s2, h3, h4⟩ := R.bind_ok h2
  obtain ⟨u, z, rfl⟩ := cons2 h3
  cases h4
  exact ⟨x, u, z, rfl⟩
theorem ri_range1 {N : List Str} {sc : Scope} (hX : In X N sc) {m : EX} {p : Pos} (hg : glB sc "range" = true) (hm : X.mg "range" = none) (ha : RE X a m) (hs : Pl a := by exact fun _ _ => rfl) :
    RI X tg (.Call (.Name "range" p) [a] [] pos) (iRange (aCons m aNil)) := pi_imp (pi_range1 (hX.gl hg) hm (ra_cons ha ra_nil hs) (hs [] X.env)) fun σ H R0 ⟨μ, env, st, src, st', S, E, h, k⟩ => by
  obtain ⟨ws, s1, h1, h2⟩ := R.bind_ok h
  obtain ⟨w, rfl, _⟩ := cons1 h1
  refine ⟨μ, env, st, _, s1, S, E, h1, fun μ1 H1 vs N1 S1 r1 => ?_⟩
  cases w with
  | int j =>
    have := args1 r1; subst this
    simp only [] at h2
    split at h2
    · rename_i hj
      cases h2
      obtain ⟨q1, q2⟩ := rngOk_ok hj
      exact ⟨j, rfl, q1, q2, k _ _ _ N1 S1 src_rng⟩
    · cases h2
  | _ => cases h2
theorem ri_range2 {N : List Str} {sc : Scope} (hX : In X N sc) {m n : EX} {p : Pos} (hg : glB sc "range" = true) (hm : X.mg "range" = none) (ha : RE X a m) (hb : RE X b n) (hs : Pl a := by exact fun _ _ => rfl) (hs2 : Pl b := by exact fun _ _ => rfl) :
    RI X tg (.Call (.Name "range" p) [a, b] [] pos) (iRange (aCons m (aCons n aNil))) := pi_imp (pi_range2 (hX.gl hg) hm (ra_cons ha (ra_cons hb ra_nil hs2) hs) ((hs [b] X.env).trans (by rw [hs2 [] X.env]; rfl)) (hs2 [] X.env)) fun σ H R0 ⟨μ, env, st, src, st', S, E, h, k⟩ => by
  obtain ⟨ws, s1, h1, h2⟩ := R.bind_ok h
  obtain ⟨w, u, rfl⟩ := cons2 h1
  refine ⟨μ, env, st, _, s1, S, E, h1, fun μ1 H1 vs N1 S1 r1 => ?_⟩
  cases w with
  | int i =>
    cases u with
    | int j =>
      have := args2 r1; subst this
      simp only [] at h2
      split at h2
      · rename_i hj
        cases h2
        obtain ⟨q1, q2⟩ := rngOk_ok hj.1
        obtain ⟨q3, q4⟩ := rngOk_ok hj.2
        exact ⟨i, j, rfl, ⟨q1, q2, q3, q4⟩, k _ _ _ N1 S1 src_rng⟩
      · cases h2
    | _ => cases h2
  | _ => cases h2
theorem ri_range3 {N : List Str} {sc : Scope} (hX : In X N sc) {m n o : EX} {p : Pos} (hg : glB sc "range" = true) (hm : X.mg "range" = none) (ha : RE X a m) (hb : RE X b n) (hc : RE X c o)
    (hs : Pl a := by exact fun _ _ => rfl) (hs2 : Pl b := by exact fun _ _ => rfl) (hs3 : Pl c := by exact fun _ _ => rfl) :
    RI X tg (.Call (.Name "range" p) [a, b, c] [] pos) (iRange (aCons m (aCons n (aCons o aNil)))) := pi_imp (pi_range3 (hX.gl hg) hm (ra_cons ha (ra_cons hb (ra_cons hc ra_nil hs3) hs2) hs) (hs [b, c] X.env) (by rw [hs2 [c] X.env, hs3 [] X.env]; rfl)) fun σ H R0 ⟨μ, env, st, src, st', S, E, h, k⟩ => by
  obtain ⟨ws, s1, h1, h2⟩ := R.bind_ok h
  obtain ⟨w, u, z, rfl⟩ := cons3 h1
  refine ⟨μ, env, st, _, s1, S, E, h1, fun μ1 H1 vs N1 S1 r1 => ?_⟩
  cases w with
  | int i =>
    cases u with
    | int j =>
      cases z with
      | int c0 =>
        have := args3 r1; subst this
        simp only [] at h2
        split at h2
        · rename_i hj
          obtain ⟨hj1, hj2, rfl⟩ := hj
          cases h2
          obtain ⟨q1, q2⟩ := rngOk_ok hj1
          obtain ⟨q3, q4⟩ := rngOk_ok hj2
          exact ⟨i, j, -1, _, rfl, RgC.neg q1 q2 q3 q4, k _ _ _ N1 S1 src_rngC⟩
        · cases h2
      | _ => cases h2
    | _ => cases h2
  | _ => cases h2
end
end Rx

/-! RxF: statements, loops, comprehensions, defs. -/
namespace Rx
open PySem PySem.Spec PyProof.Rows L2

/-- how a statement ends -/
inductive Fl where
  | nx (env : Env') | rt (w : W) | bk (env : Env') | ct (env : Env')
abbrev SX := Env' → Sto → R Fl
def KS (K : PySem.W.Frag) (μ : Nat → Addr) (L : Nat) (H : Hp) (f : Fl) (st' : Sto) (D : Ends) : Prop := ∀ μ' H', Nxt K μ L H μ' st'.length H' → Sim K μ' st' H' → match f with
  | .nx e => ∀ σ', EnvR K μ' st'.length H' e σ' → D.nx σ' H'
  | .bk e => ∀ σ', EnvR K μ' st'.length H' e σ' → D.bk σ' H'
  | .ct e => ∀ σ', EnvR K μ' st'.length H' e σ' → D.ct σ' H'
  | .rt w => ∀ v, Rep K μ' st'.length H' v w → D.rt v H'
theorem KS.mono {K : PySem.W.Frag} {μ μ1 : Nat → Addr} {L L1 : Nat} {H H1 : Hp} {f : Fl} {st' : Sto} {D : Ends} (n : Nxt K μ L H μ1 L1 H1) (k : KS K μ L H f st' D) : KS K μ1 L1 H1 f st' D := fun μ' H' N S => k μ' H' (n.trans N) S
def lS (K : PySem.W.Frag) (m : SX) : TS := fun D σ H => ∃ μ env st f st', Sim K μ st H ∧ EnvR K μ st.length H env σ ∧ m env st = .ok f st' ∧ KS K μ st.length H f st' D
abbrev RS (X : Cx) (s : Stmt) (m : SX) : Prop := PS X s (lS X.K m)
abbrev RSs (X : Cx) (ss : List Stmt) (m : SX) : Prop := PSs X ss (lS X.K m)

section
variable {X : Cx} {e a b c tg : Expr} {pos : Pos} {s s1 : Stmt} {ss : List Stmt}
theorem ps_imp {t t' : TS} (h : PS X s t) (i : ∀ D σ H, t' D σ H → t D σ H) : PS X s t' := ⟨fun pins sh σ H D I q => h.run pins sh σ H D I (i D σ H q)⟩
theorem pss_imp {t t' : TS} (h : PSs X ss t) (i : ∀ D σ H, t' D σ H → t D σ H) : PSs X ss t' := ⟨fun pins sh σ H D I q => h.run pins sh σ H D I (i D σ H q)⟩
def sNil : SX := fun env st => .ok (.nx env) st
def sSeq (m n : SX) : SX := fun env st => match m env st with
  | .ok (.nx e) s1 => n e s1
  | .ok f s1 => .ok f s1
  | .err => .err
theorem rss_nil : RSs X [] sNil := pss_imp pss_nil fun D σ H ⟨μ, env, st, f, st', S, E, h, k⟩ => by
  cases h
  exact k _ _ Nxt.refl S σ E
theorem rss_one {m : SX} (h : RS X s m) : RSs X [s] m := pss_one h
theorem rss_cons {m n : SX} (h1 : RS X s m) (h2 : RSs X ss n) : RSs X (s :: ss) (sSeq m n) := pss_imp (pss_cons h1 h2) fun D σ H ⟨μ, env, st, f, st', S, E, h, k⟩ => by
  unfold sSeq at h
  cases e : m env st with
  | err => rw [e] at h; cases h
  | ok g s1 =>
    rw [e] at h
    refine ⟨μ, env, st, g, s1, S, E, e, fun μ1 H1 N1 S1 => ?_⟩
    cases g with
    | nx e1 => exact fun σ' E' => ⟨μ1, e1, s1, f, st', S1, E', h, k.mono N1⟩
    | rt w => cases h; exact k _ _ N1 S1
    | bk e1 => cases h; exact k _ _ N1 S1
    | ct e1 => cases h; exact k _ _ N1 S1
def sPass : SX := sNil
def sBreak : SX := fun env st => .ok (.bk env) st
def sCont : SX := fun env st => .ok (.ct env) st
theorem rs_pass : RS X (.Pass pos) sNil := ps_imp ps_pass fun D σ H ⟨μ, env, st, f, st', S, E, h, k⟩ => by
  cases h
  exact k _ _ Nxt.refl S σ E
theorem rs_break : RS X (.Break pos) sBreak := ps_imp ps_break fun D σ H ⟨μ, env, st, f, st', S, E, h, k⟩ => by
  cases h
  exact k _ _ Nxt.refl S σ E
theorem rs_continue : RS X (.Continue pos) sCont := ps_imp ps_continue fun D σ H ⟨μ, env, st, f, st', S, E, h, k⟩ => by
  cases h
  exact k _ _ Nxt.refl S σ E
def sExpr (m : EX) : SX := fun env st => (m env st).bind fun _ s1 => .ok (.nx env) s1
theorem rs_expr {m : EX} (h : RE X e m) (hs : swapsWith e none pos.line X.env = pure false := by rfl) : RS X (.Expr e pos) (sExpr m) := ps_imp (ps_expr h hs) fun D σ H ⟨μ, env, st, f, st', S, E, h, k⟩ => by
  obtain ⟨x, s1, h1, h2⟩ := R.bind_ok h
  cases h2
  exact ⟨μ, env, st, x, _, S, E, h1, fun μ1 H1 v N1 S1 r1 => k _ _ N1 S1 σ (E.nxt N1)⟩
def sRet (m : EX) : SX := fun env st => (m env st).bind fun w s1 => .ok (.rt w) s1
theorem rs_ret {m : EX} (h : RE X e m) : RS X (.Return (some e) pos) (sRet m) := ps_imp (ps_ret h) fun D σ H ⟨μ, env, st, f, st', S, E, h, k⟩ => by
  obtain ⟨x, s1, h1, h2⟩ := R.bind_ok h
  cases h2
  exact ⟨μ, env, st, x, _, S, E, h1, fun μ1 H1 v N1 S1 r1 => k _ _ N1 S1 v r1⟩
def sRetN : SX := fun _ st => .ok (.rt .non) st
theorem rs_retN : RS X (.Return none pos) sRetN := ps_imp ps_retN fun D σ H ⟨μ, env, st, f, st', S, E, h, k⟩ => by
  cases h
  exact k _ _ Nxt.refl S _ .non
/-- a statement that is never come to (raise) -/
def sErr : SX := fun _ _ => .err
theorem rs_err : RS X s sErr := ps_imp ps_never fun D σ H ⟨μ, env, st, f, st', S, E, h, k⟩ => by cases h
def sIf (c : TX) (m n : SX) : SX := fun env st => (c env st).bind fun b s1 => if b = true then m env s1 else n env s1
theorem rs_if {t u : List Stmt} {mc : TX} {m n : SX} (hc : RT X c mc) (h1 : RSs X t m) (h2 : RSs X u n) : RS X (.If c t u pos) (sIf mc m n) := ps_imp (ps_if hc h1 h2) fun D σ H ⟨μ, env, st, f, st', S, E, h, k⟩ => by
  obtain ⟨x, s1, h1, h2⟩ := R.bind_ok h
  refine ⟨μ, env, st, x, s1, S, E, h1, fun μ1 H1 N1 S1 => ?_⟩
  cases x with
  | true =>
    simp only [if_true] at h2 ⊢
    exact ⟨μ1, env, s1, f, st', S1, E.nxt N1, h2, k.mono N1⟩
  | false =>
    simp only [Bool.false_eq_true, if_false] at h2 ⊢
    exact ⟨μ1, env, s1, f, st', S1, E.nxt N1, h2, k.mono N1⟩

/-! ### stores -/
def sPat (p : Pat) (m : EX) : SX := fun env st => (m env st).bind fun w s1 => match p.set w s1 env with
  | some env1 => .ok (.nx env1) s1
  | none => .err
theorem asg_run {p : Pat} {m : EX} {D : Ends} {σ : L2.St} {H : Hp} (h : lS X.K (sPat p m) D σ H) : lE X.K m σ H fun x H1 => gPat X.K p x σ H1 D.nx := by
  obtain ⟨μ, env, st, f, st', S, E, h, k⟩ := h
  obtain ⟨x, s1, h1, h2⟩ := R.bind_ok h
  refine ⟨μ, env, st, x, s1, S, E, h1, fun μ1 H1 v N1 S1 r1 => ?_⟩
  split at h2
  · rename_i env1 he
    cases h2
    exact gPat_run (vs0 := []) S1 (E.nxt N1) r1 he fun σ' E' _ => k _ _ N1 S1 σ' E'
  · cases h2
/-- name = e -/
theorem rs_set {i : Nat} {x : Str} {m : EX} {pos' : Pos} (h : Lo X i x) (he : RE X e m) (hs : swapsWith e (some (.Name x pos')) pos.line X.env = pure false := by rfl) :
    RS X (.Assign [.Name x pos'] e pos) (sPat (.nm i) m) :=
  ps_imp (ps_set (i := i) h.2.2.2 h.1 h.2.1 he hs h.2.2.1) fun D σ H h => asg_run h
/-- a, b = e (e a tuple, a list) -/
theorem rs_asg {p : Pat} {m : EX} (hg : RG X tg p) (he : RE X e m) (hs : swapsWithSole [tg] e pos.line X.env = pure false := by rfl) (hw : swappedStores [tg] e X.env = pure none := by rfl)
    (h1 : (assignEach [tg] X.env).map (·.2) = [assign tg X.env] := by rfl) : RS X (.Assign [tg] e pos) (sPat p m) :=
  ps_imp (ps_asg he hg hs hw h1) fun D σ H h => asg_run h
/-- a, b = x, y by local names -/
def locB (sc : Scope) (x : Str) : Bool := match sc.names.lookup x with
  | some .local => true
  | _ => false
theorem locB_ok {X : Cx} {N : List Str} {sc : Scope} (hX : In X N sc) {x : Str} (h : locB sc x = true) : X.env.scope.names.lookup x = some .local := by
  rw [hX.s]
  unfold locB at h
  split at h
  · assumption
  · cases h
def sPar (i j : Nat) (n : AX) : SX := fun env st => (n env st).bind fun ws s1 => match ws with
  | [w, u] => .ok (.nx ((env.set i (some w)).set j (some u))) s1
  | _ => .err
def sPar3 (i j l : Nat) (n : AX) : SX := fun env st => (n env st).bind fun ws s1 => match ws with
  | [w, u, z] => .ok (.nx (((env.set i (some w)).set j (some u)).set l (some z))) s1
  | _ => .err
def ixOk (N : List Str) (i : Nat) (x : Str) : Bool := decide (N[i]? = some x)
theorem rs_par {N : List Str} {sc : Scope} (hX : In X N sc) {i j : Nat} {x y : Str} {n : AX} {px py pt : Pos} {kt k2 pt2} (hi : ixOk N i x = true) (hj : ixOk N j y = true) (hij : Nat.beq i j = false) (hx : locB sc x = true) (hy : locB sc y = true) (ha : RA X [a, b] n)
    (hw : ∀ env : Env, env.scope = sc → swappedStores [.Tuple [.Name x px, .Name y py] kt pt] (.Tuple [a, b] k2 pt2) env = pure (some [x, y]))
    (hs : swapsWithSole [.Tuple [.Name x px, .Name y py] kt pt] (.Tuple [a, b] k2 pt2) pos.line X.env = pure false := by rfl) :
    RS X (.Assign [.Tuple [.Name x px, .Name y py] kt pt] (.Tuple [a, b] k2 pt2) pos) (sPar i j n) :=
  ps_imp (ps_par (i := i) (j := j) hX.calm (by rw [hX.n]; exact hX.nd) (by rw [hX.n]; exact of_decide_eq_true hi) (by rw [hX.n]; exact of_decide_eq_true hj) (Nat.ne_of_beq_eq_false hij) (locB_ok hX hx) (locB_ok hX hy) ha (hw X.env hX.s) hs)
    fun D σ H ⟨μ, env, st, f, st', S, E, h, k⟩ => by
    obtain ⟨ws, s1, h1, h2⟩ := R.bind_ok h
    refine ⟨μ, env, st, ws, s1, S, E, h1, fun μ1 H1 vs N1 S1 r1 => ?_⟩
    match ws, r1, h2 with
    | [w, u], .cons r (.cons r' .nil), h2 =>
      cases h2
      exact ⟨_, _, rfl, k _ _ N1 S1 _ (((E.nxt N1).set r i).set r' j)⟩
theorem rs_par3 {N : List Str} {sc : Scope} (hX : In X N sc) {i j l : Nat} {x y z : Str} {n : AX} {px py pz pt : Pos} {kt k2 pt2} (hi : ixOk N i x = true) (hj : ixOk N j y = true) (hl : ixOk N l z = true) (hij : Nat.beq i j = false) (hil : Nat.beq i l = false) (hjl : Nat.beq j l = false) (hx : locB sc x = true) (hy : locB sc y = true) (hz : locB sc z = true) (ha : RA X [a, b, c] n)
    (hw : ∀ env : Env, env.scope = sc → swappedStores [.Tuple [.Name x px, .Name y py, .Name z pz] kt pt] (.Tuple [a, b, c] k2 pt2) env = pure (some [x, y, z]))
    (hs : swapsWithSole [.Tuple [.Name x px, .Name y py, .Name z pz] kt pt] (.Tuple [a, b, c] k2 pt2) pos.line X.env = pure false := by rfl) :
    RS X (.Assign [.Tuple [.Name x px, .Name y py, .Name z pz] kt pt] (.Tuple [a, b, c] k2 pt2) pos) (sPar3 i j l n) :=
  ps_imp (ps_par3 (i := i) (j := j) (l := l) hX.calm (by rw [hX.n]; exact hX.nd) (by rw [hX.n]; exact of_decide_eq_true hi) (by rw [hX.n]; exact of_decide_eq_true hj) (by rw [hX.n]; exact of_decide_eq_true hl) (Nat.ne_of_beq_eq_false hij) (Nat.ne_of_beq_eq_false hil) (Nat.ne_of_beq_eq_false hjl) (locB_ok hX hx) (locB_ok hX hy) (locB_ok hX hz) ha (hw X.env hX.s) hs)
    fun D σ H ⟨μ, env, st, f, st', S, E, h, k⟩ => by
    obtain ⟨ws, s1, h1, h2⟩ := R.bind_ok h
    refine ⟨μ, env, st, ws, s1, S, E, h1, fun μ1 H1 vs N1 S1 r1 => ?_⟩
    match ws, r1, h2 with
    | [w, u, z], .cons r (.cons r' (.cons r'' .nil)), h2 =>
      cases h2
      exact ⟨_, _, _, rfl, k _ _ N1 S1 _ ((((E.nxt N1).set r i).set r' j).set r'' l)⟩
/-- several subscripts, names: o[i], x, .. = a tuple -/
inductive Tg where
  | nm (i : Nat) | sub (mo mi : EX)
def Tg.set (t : Tg) (w : W) (env : Env') (st : Sto) : R Env' := match t with
  | .nm i => .ok (env.set i (some w)) st
  | .sub mo mi => (mo env st).bind fun o s1 => (mi env s1).bind fun i s2 => (fSet o i w s2).bind fun _ s3 => .ok env s3
def gTg (K : PySem.W.Frag) : Tg → TG
  | .nm i => gName i
  | .sub mo mi => gSub (lE K mo) (lE K mi) (lSet K)
abbrev RTg (X : Cx) (e : Expr) (t : Tg) : Prop := PG X e (gTg X.K t)
theorem rt_nm {i : Nat} {x : Str} (h : Lo X i x) : RTg X (.Name x pos) (.nm i) := pg_name h.2.2.2 h.1 h.2.1 h.2.2.1
theorem rt_sub {mo mi : EX} (ho : RE X a mo) (hi : RE X b mi)
    (ha : ∀ v, assign (.Subscript a b pos) X.env v = (do
      let ov ← holding [v] (eval a X.env)
      let iv ← holding [v, ov] (eval b X.env)
      standAt pos
      holding [v, ov, iv] (setItem ov iv v)
      release [v, ov, iv] []) := by intro _; rfl) : RTg X (.Subscript a b pos) (.sub mo mi) := pg_sub ho hi s_set ha
theorem gTg_run {t : Tg} {μ : Nat → Addr} {st st' : Sto} {H : Hp} {v : V} {w : W} {env env' : Env'} {σ : L2.St} {Q : L2.St → Hp → Prop} (S : Sim X.K μ st H) (E : EnvR X.K μ st.length H env σ) (r : Rep X.K μ st.length H v w) (h : t.set w env st = .ok env' st')
    (k : ∀ μ' H' σ', Nxt X.K μ st.length H μ' st'.length H' → Sim X.K μ' st' H' → EnvR X.K μ' st'.length H' env' σ' → Q σ' H') : gTg X.K t v σ H Q := by
  cases t with
  | nm i =>
    cases h
    exact k _ _ _ Nxt.refl S (E.set r i)
  | sub mo mi =>
    obtain ⟨o, s1, h1, h2⟩ := R.bind_ok h
    obtain ⟨i, s2, h3, h4⟩ := R.bind_ok h2
    obtain ⟨u, s3, h5, h6⟩ := R.bind_ok h4
    cases h6
    exact ⟨μ, env, st, o, s1, S, E, h1, fun μ1 H1 ov N1 S1 r1 => ⟨μ1, env, s1, i, s2, S1, E.nxt N1, h3, fun μ2 H2 iv N2 S2 r2 => ⟨μ2, s2, o, i, w, _, S2, r1.nxt N2, r2, (r.nxt N1).nxt N2, h5, fun H3 N3 S3 =>
      k _ _ _ ((N1.trans N2).trans N3) S3 (((E.nxt N1).nxt N2).nxt N3)⟩⟩⟩
def setTgs : List Tg → List W → Env' → Sto → R Env'
  | [], [], env, st => .ok env st
  | t :: ts, w :: ws, env, st => (t.set w env st).bind fun e s1 => setTgs ts ws e s1
  | _, _, _, _ => .err
def gTgs (K : PySem.W.Frag) : List Tg → TGs
  | [] => gNil
  | t :: ts => gCons (gTg K t) (gTgs K ts)
theorem rts_nil : PGs X [] (gTgs X.K []) := pgs_nil
theorem rts_cons {t : Tg} {ts : List Tg} {es : List Expr} (h : RTg X a t) (h2 : PGs X es (gTgs X.K ts)) (hs : (assignEach (a :: es) X.env).map (·.2) = assign a X.env :: (assignEach es X.env).map (·.2) := by rfl) : PGs X (a :: es) (gTgs X.K (t :: ts)) := pgs_cons h h2 hs
theorem gTgs_run : ∀ {ts : List Tg} {μ : Nat → Addr} {st st' : Sto} {H : Hp} {vs : List V} {ws : List W} {env env' : Env'} {σ : L2.St} {Q : L2.St → Hp → Prop}, Sim X.K μ st H → EnvR X.K μ st.length H env σ → Reps X.K μ st.length H vs ws → setTgs ts ws env st = .ok env' st' →
    (∀ μ' H' σ', Nxt X.K μ st.length H μ' st'.length H' → Sim X.K μ' st' H' → EnvR X.K μ' st'.length H' env' σ' → Q σ' H') → gTgs X.K ts vs σ H Q
  | [], μ, st, st', H, _, _, env, env', σ, Q, S, E, r, h, k => by
    cases r with
    | nil => cases h; exact ⟨rfl, k _ _ _ Nxt.refl S E⟩
    | cons _ _ => cases h
  | t :: ts, μ, st, st', H, _, _, env, env', σ, Q, S, E, r, h, k => by
    cases r with
    | nil => cases h
    | cons r rs =>
      obtain ⟨e, s1, h1, h2⟩ := R.bind_ok h
      exact ⟨_, _, rfl, gTg_run S E r h1 fun μ1 H1 σ1 N1 S1 E1 => gTgs_run S1 E1 (rs.nxt N1) h2 fun μ2 H2 σ2 N2 S2 E2 => k _ _ _ (N1.trans N2) S2 E2⟩
theorem setTgs_len : ∀ {ts : List Tg} {ws : List W} {env env' : Env'} {st st' : Sto}, setTgs ts ws env st = .ok env' st' → ws.length = ts.length
  | [], [], _, _, _, _, _ => rfl
  | [], _ :: _, _, _, _, _, h => by cases h
  | _ :: _, [], _, _, _, _, h => by cases h
  | t :: ts, w :: ws, _, _, _, _, h => by
    obtain ⟨e, s1, h1, h2⟩ := R.bind_ok h
    simp [setTgs_len h2]
/-- o[i] = e; also several of these, names among them, from a tuple -/
def sTg (t : Tg) (m : EX) : SX := fun env st => (m env st).bind fun w s1 => (t.set w env s1).bind fun e s2 => .ok (.nx e) s2
theorem rs_tg {t : Tg} {m : EX} (hg : RTg X tg t) (he : RE X e m) (hs : swapsWithSole [tg] e pos.line X.env = pure false := by rfl) (hw : swappedStores [tg] e X.env = pure none := by rfl)
    (h1 : (assignEach [tg] X.env).map (·.2) = [assign tg X.env] := by rfl) : RS X (.Assign [tg] e pos) (sTg t m) :=
  ps_imp (ps_asg he hg hs hw h1) fun D σ H ⟨μ, env, st, f, st', S, E, h, k⟩ => by
    obtain ⟨x, s1, h1, h2⟩ := R.bind_ok h
    obtain ⟨e1, s2, h3, h4⟩ := R.bind_ok h2
    cases h4
    exact ⟨μ, env, st, x, s1, S, E, h1, fun μ1 H1 v N1 S1 r1 => gTg_run S1 (E.nxt N1) r1 h3 fun μ2 H2 σ2 N2 S2 E2 => k _ _ (N1.trans N2) S2 σ2 E2⟩
def sTgs (ts : List Tg) (m : EX) : SX := fun env st => (m env st).bind fun w s1 => match w with
  | .tup ws => (setTgs ts ws env s1).bind fun e s2 => .ok (.nx e) s2
  | _ => .err
theorem rs_tgs {N : List Str} {sc : Scope} (hX : In X N sc) {ts : List Tg} {m : EX} {es : List Expr} {k0 : Nat} {tpos : Pos} (hg : PGs X es (gTgs X.K ts)) (he : RE X e m) (hn : (assignEach es X.env).length = ts.length := by rfl) (hst : (assignEach es X.env).findIdx? (·.1) = none := by rfl) (hs : swapsWithSole [.Tuple es k0 tpos] e pos.line X.env = pure false := by rfl) (hw : swappedStores [.Tuple es k0 tpos] e X.env = pure none := by rfl)
    (h1 : (assignEach [.Tuple es k0 tpos] X.env).map (·.2) = [assign (.Tuple es k0 tpos) X.env] := by rfl) : RS X (.Assign [.Tuple es k0 tpos] e pos) (sTgs ts m) :=
  ps_imp (ps_asg he (pg_tup hX.calm hg hn hst) hs hw h1) fun D σ H ⟨μ, env, st, f, st', S, E, h, k⟩ => by
    obtain ⟨x, s1, h1, h2⟩ := R.bind_ok h
    refine ⟨μ, env, st, x, s1, S, E, h1, fun μ1 H1 v N1 S1 r1 => ?_⟩
    cases x with
    | tup ws =>
      obtain ⟨e1, s2, h3, h4⟩ := R.bind_ok h2
      cases h4
      obtain ⟨a, vs, rfl, t, r⟩ := rep_tup r1
      exact ⟨a, vs, rfl, t.sq, by rw [r.length]; exact setTgs_len h3, gTgs_run S1 (E.nxt N1) r h3 fun μ2 H2 σ2 N2 S2 E2 => k _ _ (N1.trans N2) S2 σ2 E2⟩
    | _ => cases h2
/-- name op= e -/
def sAug (i : Nat) (f : W → W → Sto → R W) (m : EX) : SX := fun env st => match env[i]? with
  | some (some x) => (m env st).bind fun y s1 => (f x y s1).bind fun z s2 => .ok (.nx (env.set i (some z))) s2
  | _ => .err
def fAddI : W → W → Sto → R W
  | .int i, .int j, st => .ok (.int (i + j)) st
  | _, _, _ => .err
def fSubI : W → W → Sto → R W
  | .int i, .int j, st => .ok (.int (i - j)) st
  | _, _, _ => .err
def lIp (K : PySem.W.Frag) (f : W → W → Sto → R W) : TIp := lO K f
theorem ip_addI : PIp X .Add (lIp X.K fAddI) := fun pins s σ H x y v u Q I r1 r2 ⟨μ, st, a, b, w, st', S, ra, rb, e, k⟩ => ip_add pins s σ H x y v u Q I r1 r2 (by
  cases a with
  | int i =>
    cases b with
    | int j =>
      cases e
      exact ⟨i, j, rep_int ra, rep_int rb, k.here S (.int _)⟩
    | _ => cases e
  | _ => cases e)
theorem ip_subI : PIp X .Sub (lIp X.K fSubI) := fun pins s σ H x y v u Q I r1 r2 ⟨μ, st, a, b, w, st', S, ra, rb, e, k⟩ => ip_sub pins s σ H x y v u Q I r1 r2 (by
  cases a with
  | int i =>
    cases b with
    | int j =>
      cases e
      exact ⟨i, j, rep_int ra, rep_int rb, k.here S (.int _)⟩
    | _ => cases e
  | _ => cases e)
theorem rs_aug {i : Nat} {x : Str} {op : Operator} {f : W → W → Sto → R W} {m : EX} {pos' : Pos} (h : Lo X i x) (ho : PIp X op (lIp X.K f)) (he : RE X e m) : RS X (.AugAssign (.Name x pos') op e pos) (sAug i f m) := by
  refine ps_imp (ps_aug (i := i) h.2.2.2 h.1 h.2.1 he ho h.2.2.1) fun D σ H ⟨μ, env, st, f, st', S, E, h, k⟩ => ?_
  unfold sAug at h
  split at h
  · rename_i x hx
    obtain ⟨y, s1, g1, g2⟩ := R.bind_ok h
    obtain ⟨z, s2, g3, g4⟩ := R.bind_ok g2
    cases g4
    obtain ⟨v, e1, rv⟩ := E.at_ _ _ hx
    exact ⟨v, e1, μ, env, st, y, s1, S, E, g1, fun μ1 H1 u N1 S1 r1 => ⟨μ1, s1, x, y, z, _, S1, rv.nxt N1, r1, g3, fun μ2 H2 q N2 S2 r2 => k _ _ (N1.trans N2) S2 _ (((E.nxt N1).nxt N2).set r2 i)⟩⟩
  · cases h

/-! ### for -/
def forM (src : Src) (p : Pat) (body : SX) : Nat → Nat → Env' → Sto → R Fl
  | 0, _, _, _ => .err
  | n + 1, i, env, st => match src.at i st with
    | none => .ok (.nx env) st
    | some x => match p.set x st env with
      | none => .err
      | some e1 => match body e1 st with
        | .ok (.nx e) s => forM src p body n (i + 1) e s
        | .ok (.ct e) s => forM src p body n (i + 1) e s
        | .ok (.bk e) s => .ok (.nx e) s
        | .ok (.rt w) s => .ok (.rt w) s
        | .err => .err
/-- how many turns at most: as many as there are items at the start, and one more -/
def Src.bound (src : Src) (st : Sto) : Nat := match src with
  | .fix xs => xs.length + 1
  | .lv n => match st[n]? with
    | some (.lst xs) => xs.length + 1
    | none => 0
  | .en n => match st[n]? with
    | some (.lst xs) => xs.length + 1
    | none => 0
  | .zp n _ => match st[n]? with
    | some (.lst xs) => xs.length + 1
    | none => 0
def sFor (it : IX) (p : Pat) (body : SX) : SX := fun env st => (it env st).bind fun src s1 => forM src p body (src.bound s1) 0 env s1
theorem rs_for {N : List Str} {sc : Scope} (hX : In X N sc) {iter : Expr} {body : List Stmt} {it : IX} {p : Pat} {m : SX} (hi : RI X tg iter it) (hg : RG X tg p) (hb : RSs X body m) (hs : ∀ x, foldedSetIterable iter X.env x = pure x := by intro _; rfl) :
    RS X (.For tg iter body [] pos) (sFor it p m) := ps_imp (ps_for hX.passes hX.calm hi hg hb hs) fun D σ H ⟨μ, env, st, f, st', S, E, h, k⟩ => by
  obtain ⟨src, s1, h1, h2⟩ := R.bind_ok h
  refine ⟨μ, env, st, src, s1, S, E, h1, fun J μ1 H1 N1 S1 so => ?_⟩
  refine ⟨fun i m0 σ H => ∃ μ env st, Sim X.K μ st H ∧ EnvR X.K μ st.length H env σ ∧ forM src p m m0 i env st = .ok f st' ∧ SrcOk X.K J src μ st.length H ∧ KS X.K μ st.length H f st' D, ⟨_, μ1, env, s1, S1, E.nxt N1, h2, so, k.mono N1⟩, ?_⟩
  rintro i m0 σ2 H2 ⟨μ2, env2, st2, S2, E2, g, so2, k2⟩
  cases m0 with
  | zero => cases g
  | succ m0 =>
    have q := so2 μ2 st2 H2 Nxt.refl.w S2 i
    unfold forM at g
    split at g
    · rename_i hn
      rw [hn] at q
      cases g
      exact .inl ⟨q, k2 _ _ Nxt.refl S2 σ2 E2⟩
    · rename_i x hx
      rw [hx] at q
      obtain ⟨go, yl⟩ := q
      split at g
      · cases g
      · rename_i e1 he1
        refine .inr ⟨go, fun σ H => ∃ μ env st, Sim X.K μ st H ∧ EnvR X.K μ st.length H env σ ∧ forM src p m m0 (i + 1) env st = .ok f st' ∧ SrcOk X.K J src μ st.length H ∧ KS X.K μ st.length H f st' D, fun σ' H' hN => ⟨m0, Nat.lt_succ_self _, hN⟩, fun xv H3 y => ?_⟩
        obtain ⟨N3, S3, r3⟩ := yl xv H3 y
        refine gPat_run (vs0 := []) S3 (E2.nxt N3) r3 he1 fun σ4 E4 _ => ?_
        have so3 := so2.mono N3.w
        have k3 := k2.mono N3
        cases eb : m e1 st2 with
        | err => rw [eb] at g; cases g
        | ok fl s5 =>
          rw [eb] at g
          refine ⟨μ2, e1, st2, fl, s5, S3, E4, eb, fun μ5 H5 N5 S5 => ?_⟩
          cases fl with
          | nx e => exact fun σ' E' => ⟨μ5, e, s5, S5, E', g, so3.mono N5.w, k3.mono N5⟩
          | ct e => exact fun σ' E' => ⟨μ5, e, s5, S5, E', g, so3.mono N5.w, k3.mono N5⟩
          | bk e => cases g; exact fun σ' E' => k3 _ _ N5 S5 σ' E'
          | rt w => cases g; exact k3 _ _ N5 S5

/-! ### while -/
def whileM (c : TX) (body : SX) : Nat → Env' → Sto → R Fl
  | 0, _, _ => .err
  | n + 1, env, st => match c env st with
    | .err => .err
    | .ok false s => .ok (.nx env) s
    | .ok true s => match body env s with
      | .ok (.nx e) s => whileM c body n e s
      | .ok (.ct e) s => whileM c body n e s
      | .ok (.bk e) s => .ok (.nx e) s
      | .ok (.rt w) s => .ok (.rt w) s
      | .err => .err
def sWhile (fuel : Nat) (c : TX) (body : SX) : SX := fun env st => whileM c body fuel env st
theorem rs_while {N : List Str} {sc : Scope} (hX : In X N sc) {body : List Stmt} {fuel : Nat} {mc : TX} {m : SX} (hc : RT X c mc) (hb : RSs X body m) : RS X (.While c body [] pos) (sWhile fuel mc m) :=
  ps_imp (ps_while hX.passes hc hb) fun D σ H ⟨μ, env, st, f, st', S, E, h, k⟩ => by
  refine ⟨fun m0 σ H => ∃ μ env st, Sim X.K μ st H ∧ EnvR X.K μ st.length H env σ ∧ whileM mc m m0 env st = .ok f st' ∧ KS X.K μ st.length H f st' D, ⟨fuel, μ, env, st, S, E, h, k⟩, ?_⟩
  rintro m0 σ2 H2 ⟨μ2, env2, st2, S2, E2, g, k2⟩
  cases m0 with
  | zero => cases g
  | succ m0 =>
    unfold whileM at g
    split at g
    · cases g
    · rename_i s3 hc3
      cases g
      exact ⟨μ2, env2, st2, false, _, S2, E2, hc3, fun μ3 H3 N3 S3 => by
        simp only [Bool.false_eq_true, if_false]
        exact k2 _ _ N3 S3 σ2 (E2.nxt N3)⟩
    · rename_i s3 hc3
      refine ⟨μ2, env2, st2, true, s3, S2, E2, hc3, fun μ3 H3 N3 S3 => ?_⟩
      simp only [if_true]
      refine ⟨fun σ H => ∃ μ env st, Sim X.K μ st H ∧ EnvR X.K μ st.length H env σ ∧ whileM mc m m0 env st = .ok f st' ∧ KS X.K μ st.length H f st' D, fun σ' H' hN => ⟨m0, Nat.lt_succ_self _, hN⟩, ?_⟩
      have k3 := k2.mono N3
      cases eb : m env2 s3 with
      | err => rw [eb] at g; cases g
      | ok fl s5 =>
        rw [eb] at g
        refine ⟨μ3, env2, s3, fl, s5, S3, E2.nxt N3, eb, fun μ5 H5 N5 S5 => ?_⟩
        cases fl with
        | nx e => exact fun σ' E' => ⟨μ5, e, s5, S5, E', g, k3.mono N5⟩
        | ct e => exact fun σ' E' => ⟨μ5, e, s5, S5, E', g, k3.mono N5⟩
        | bk e => cases g; exact fun σ' E' => k3 _ _ N5 S5 σ' E'
        | rt w => cases g; exact k3 _ _ N5 S5
end
end Rx

/-! RxG: comprehensions, defs and their calls. -/
namespace Rx
open PySem PySem.Spec PyProof.Rows L2

section
variable {X : Cx} {e a b c tg tg1 elt iter iter1 : Expr} {pos : Pos} {ifs ifs1 : List Expr} {scope : Scope} {own : List (Str × Nat)}
abbrev RTs (X : Cx) (ifs : List Expr) (m : TX) : Prop := PTs X ifs (lT X.K m)
theorem pts_imp {t t' : TT} (h : PTs X ifs t) (i : ∀ σ H Q, t' σ H Q → t σ H Q) : PTs X ifs t' := ⟨fun pins s σ H Q I q => h.run pins s σ H Q I (i σ H Q q)⟩
def tYesM : TX := fun _ st => .ok true st
theorem rts_none : RTs X [] tYesM := pts_imp pts_nil fun σ H Q ⟨μ, env, st, b, st', S, E, h, k⟩ => by
  cases h
  exact k _ _ Nxt.refl S
theorem rts_if {m : TX} (h : RT X c m) : RTs X [c] m := pts_one h
/-- the rest of the list that a comprehension makes from turn i on -/
def compM (src : Src) (p : Pat) (t : TX) (m : EX) (env : Env') : Nat → Nat → Sto → R (List W)
  | 0, _, _ => .err
  | n + 1, i, st => match src.at i st with
    | none => .ok [] st
    | some x => match p.set x st env with
      | none => .err
      | some e1 => match t e1 st with
        | .err => .err
        | .ok false s => compM src p t m env n (i + 1) s
        | .ok true s => match m e1 s with
          | .err => .err
          | .ok y s2 => match compM src p t m env n (i + 1) s2 with
            | .err => .err
            | .ok ys s3 => .ok (y :: ys) s3
def eComp (it : IX) (p : Pat) (t : TX) (m : EX) (vs : List Nat) : EX := fun env st => (it env st).bind fun src s1 => (compM src p t m (wipeE env vs) (src.bound s1) 0 s1).bind fun ys s2 =>
  if ys.length ≤ 1000000 then .ok (.ls s2.length) (s2 ++ [.lst ys]) else .err
theorem nmem_of {p : Pat} {vs : List Nat} (h : (p.slots.all fun i => decide (i ∈ vs)) = true) : ∀ i ∈ p.slots, i ∈ vs := fun i hi => of_decide_eq_true (List.all_eq_true.mp h i hi)
theorem wipe_wipe {σ : L2.St} {vs : List Nat} : L2.wipe (L2.wipe σ vs) vs = L2.wipe σ vs := by
  have : ∀ (us : List Nat) (τ : L2.St), (∀ i ∈ us, i ∈ vs) → (∀ i, i ∈ vs → i < τ.length → τ[i]? = some none) → L2.wipe τ us = τ := by
    intro us
    induction us with
    | nil => intro τ _ _; rfl
    | cons u us ih =>
      intro τ h1 h2
      unfold L2.wipe
      rw [ih τ (fun i hi => h1 i (List.mem_cons_of_mem _ hi)) h2]
      apply List.ext_getElem?
      intro k
      by_cases hk : u = k
      · subst hk
        by_cases hl : u < τ.length
        · rw [List.getElem?_set_self hl, h2 u (h1 u List.mem_cons_self) hl]
        · rw [List.getElem?_eq_none (by rw [List.length_set]; omega), List.getElem?_eq_none (by omega)]
      · rw [List.getElem?_set_ne hk]
  refine this vs _ (fun i hi => hi) fun i hi hl => ?_
  cases e : (L2.wipe σ vs)[i]? with
  | none => rw [List.getElem?_eq_none_iff] at e; omega
  | some o =>
    cases o with
    | none => rfl
    | some y => exact absurd hi (wipe_some e).2
/-- a comprehension on its way: acc stands at D, rest is to come -/
structure CSt (K : PySem.W.Frag) (μ1 : Nat → Addr) (L1 : Nat) (H1 : Hp) (D : Addr) (ys : List W) (J : It) (src : Src) (env : Env') (σ : L2.St) (μ : Nat → Addr) (st : Sto) (H : Hp) (rest : List W) : Prop where
  S : Sim K μ st H
  E : EnvR K μ st.length H env σ
  so : SrcOk K J src μ st.length H
  N : NxtD D K μ1 L1 H1 μ st.length H
  at_ : ∃ us acc, H D = some (.lst us) ∧ Reps K μ st.length H us acc ∧ acc ++ rest = ys
  ne : ∀ i, i < st.length → μ i ≠ D
section
variable {K : PySem.W.Frag} {μ1 : Nat → Addr} {L1 : Nat} {H1 : Hp} {D : Addr} {ys : List W} {J : It} {src : Src} {env : Env'} {σ : L2.St} {μ : Nat → Addr} {st : Sto} {H : Hp} {rest : List W}
theorem CSt.start (S : Sim K μ1 st H1) (E : EnvR K μ1 st.length H1 env σ) (so : SrcOk K J src μ1 st.length H1) (hD : H1 D = none) : CSt K μ1 st.length H1 D ys J src env σ μ1 st (upd H1 D (.lst [])) ys := by
  have N2 : Nxt K μ1 st.length H1 μ1 st.length (upd H1 D (.lst [])) := Nxt.tup hD
  refine ⟨S.tup hD, E.nxt N2, so.mono N2.w, N2.d D, ⟨[], [], upd_same, .nil, rfl⟩, fun i hi => ?_⟩
  obtain ⟨xs, q⟩ := S.isL hi
  exact ne_of_none q hD
theorem CSt.step {μ' : Nat → Addr} {st' : Sto} {H' : Hp} (c : CSt K μ1 L1 H1 D ys J src env σ μ st H rest) (N : Nxt K μ st.length H μ' st'.length H') (S : Sim K μ' st' H') : CSt K μ1 L1 H1 D ys J src env σ μ' st' H' rest := by
  obtain ⟨us, acc, h1, h2, h3⟩ := c.at_
  refine ⟨S, c.E.nxt N, c.so.mono N.w, c.N.trans (N.d D), ⟨us, acc, N.fr D _ h1 fun i hi z => c.ne i hi z.symm, h2.nxt N, h3⟩, fun i hi z => ?_⟩
  by_cases hL : i < st.length
  · rw [N.mu i hL] at z
    exact c.ne i hL z
  · have := N.nw i (Nat.le_of_not_lt hL) hi
    rw [z, h1] at this
    cases this
theorem CSt.app {y : W} {v : V} (c : CSt K μ1 L1 H1 D ys J src env σ μ st H (y :: rest)) (r : Rep K μ st.length H v y) (hz : ys.length ≤ 1000000) : ∃ us, H D = some (.lst us) ∧ us.length < sizeLine ∧ CSt K μ1 L1 H1 D ys J src env σ μ st (upd H D (.lst (us ++ [v]))) rest := by
  obtain ⟨us, acc, h1, h2, h3⟩ := c.at_
  have P : NxtD D K μ st.length H μ st.length (upd H D (.lst (us ++ [v]))) := NxtD.put h1
  refine ⟨us, h1, ?_, c.S.putD h1 c.ne, c.E.nxw P.w, c.so.mono P.w, c.N.trans P, ⟨us ++ [v], acc ++ [y], upd_same, (h2.append (.cons r .nil)).nxw P.w, by rw [← h3]; simp⟩, c.ne⟩
  have a1 := h2.length
  have a2 : ys.length = acc.length + (rest.length + 1) := by rw [← h3]; simp
  rw [sizeLine_eq]
  omega
/-- the list becomes the store's -/
theorem CSt.fin {μ0 : Nat → Addr} {L0 : Nat} {H0 : Hp} {Q : VK} (c : CSt K μ1 L1 H1 D ys J src env σ μ st H []) (N1 : Nxt K μ0 L0 H0 μ1 L1 H1) (hD : H1 D = none) (k : KE K μ0 L0 H0 (.ls st.length) (st ++ [.lst ys]) Q) : Q (.ref D) H := by
  obtain ⟨us, acc, hus, rus, hac⟩ := c.at_
  rw [List.append_nil] at hac
  subst hac
  have hl : (st ++ [Ob.lst acc]).length = st.length + 1 := by simp
  have mu0 : ∀ i, i < st.length → muAt μ st.length D i = μ i := fun i hi => muAt_lt hi
  have N : Nxt K μ0 L0 H0 μ st.length H := N1.trans (c.N.nxt hD)
  have N3 : Nxt K μ0 L0 H0 (muAt μ st.length D) (st ++ [Ob.lst acc]).length H := by
    refine ⟨N.tp, N.fz, fun i hi => ?_, by rw [hl]; exact Nat.le_succ_of_le N.le, N.fr, N.ks, fun i hi hi2 => ?_⟩
    · rw [mu0 i (Nat.lt_of_lt_of_le hi N.le)]; exact N.mu i hi
    · rw [hl] at hi2
      by_cases hs : i < st.length
      · rw [mu0 i hs]; exact N.nw i hi hs
      · have : i = st.length := by omega
        subst this
        rw [muAt_eq]
        exact N1.ks _ hD
  have rr : ∀ {vs : List V} {ws : List W}, Reps K μ st.length H vs ws → Reps K (muAt μ st.length D) (st.length + 1) H vs ws := fun {vs ws} r =>
    r.step (fun _ _ h => h) (fun _ _ h => h) mu0 (Nat.le_succ _)
  have S3 : Sim K (muAt μ st.length D) (st ++ [Ob.lst acc]) H := by
    refine ⟨fun i ob e => ?_, fun i j hi hj e => ?_⟩
    · rw [hl]
      by_cases hi : i < st.length
      · rw [List.getElem?_append_left hi] at e
        rw [mu0 i hi]
        have := c.S.at_ i ob e
        cases ob with
        | lst ws =>
          obtain ⟨vs', q1, q2⟩ := this
          exact ⟨vs', q1, rr q2⟩
      · have : i = st.length := by
          have := lt_of_get e
          rw [hl] at this; omega
        subst this
        rw [List.getElem?_append_right (Nat.le_refl _)] at e
        simp at e
        subst e
        rw [muAt_eq]
        exact ⟨us, hus, rr rus⟩
    · rw [hl] at hi hj
      by_cases h1 : i < st.length
      · by_cases h2 : j < st.length
        · rw [mu0 i h1, mu0 j h2] at e
          exact c.S.inj i j h1 h2 e
        · have : j = st.length := by omega
          subst this
          rw [mu0 i h1, muAt_eq] at e
          exact absurd e (c.ne i h1)
      · have : i = st.length := by omega
        subst this
        by_cases h2 : j < st.length
        · rw [mu0 j h2, muAt_eq] at e
          exact absurd e.symm (c.ne j h2)
        · omega
  have q : Rep K (muAt μ st.length D) (st ++ [Ob.lst acc]).length H (.ref (muAt μ st.length D st.length)) (.ls st.length) := .ls (by rw [hl]; exact Nat.lt_succ_self _)
  rw [muAt_eq] at q
  exact k _ _ _ N3 S3 q
end
theorem comp_run {it : IX} {p : Pat} {t : TX} {m : EX} {σ : L2.St} {H : Hp} {Q : VK} {vs : List Nat} (hp : (p.slots.all fun i => decide (i ∈ vs)) = true) (h : lE X.K (eComp it p t m vs) σ H Q) :
    tLc (lI X.K it) (gPat X.K p) (lT X.K t) (lE X.K m) vs σ H Q := by
  obtain ⟨μ, env, st, w, st', S, E, h, k⟩ := h
  obtain ⟨src, s1, h1, h2⟩ := R.bind_ok h
  obtain ⟨ys, s2, h3, h4⟩ := R.bind_ok h2
  split at h4
  rotate_left
  · cases h4
  rename_i hz
  cases h4
  refine ⟨μ, env, st, src, s1, S, E, h1, fun J μ1 H1 N1 S1 so D hD => ?_⟩
  refine ⟨fun i m0 H => ∃ μ st rest, CSt X.K μ1 s1.length H1 D ys J src (wipeE env vs) (L2.wipe σ vs) μ st H rest ∧ compM src p t m (wipeE env vs) m0 i st = .ok rest s2,
    ⟨_, μ1, s1, ys, CSt.start S1 ((E.nxt N1).wipe vs) so hD, h3⟩, ?_⟩
  rintro i m0 H2 ⟨μ2, st2, rest, c, g⟩
  cases m0 with
  | zero => cases g
  | succ m0 =>
    have q := c.so μ2 st2 H2 Nxt.refl.w c.S i
    unfold compM at g
    split at g
    · rename_i hn
      rw [hn] at q
      cases g
      exact .inl ⟨q, c.fin N1 hD k⟩
    · rename_i x hx
      rw [hx] at q
      obtain ⟨go, yl⟩ := q
      split at g
      · cases g
      · rename_i e1 he1
        refine .inr ⟨go, fun H => ∃ μ st rest, CSt X.K μ1 s1.length H1 D ys J src (wipeE env vs) (L2.wipe σ vs) μ st H rest ∧ compM src p t m (wipeE env vs) m0 (i + 1) st = .ok rest s2, fun H' hN => ⟨m0, Nat.lt_succ_self _, hN⟩, fun xv H3 y => ?_⟩
        obtain ⟨N3, S3, r3⟩ := yl xv H3 y
        have c3 := c.step N3 S3
        refine gPat_run (vs0 := vs) S3 c3.E r3 he1 fun σ4 E4 hw => ⟨by rw [hw (nmem_of hp), wipe_wipe], ?_⟩
        cases et : t e1 st2 with
        | err => rw [et] at g; cases g
        | ok bb s5 =>
          rw [et] at g
          refine ⟨μ2, e1, st2, bb, s5, S3, E4, et, fun μ5 H5 N5 S5 => ?_⟩
          have c5 := c3.step N5 S5
          cases bb with
          | false =>
            simp only [Bool.false_eq_true, if_false]
            exact ⟨μ5, s5, rest, c5, g⟩
          | true =>
            simp only [if_true]
            cases em : m e1 s5 with
            | err => simp only [em] at g; cases g
            | ok y s6 =>
              simp only [em] at g
              cases ec : compM src p t m (wipeE env vs) m0 (i + 1) s6 with
              | err => simp only [ec] at g; cases g
              | ok ys' s7 =>
                simp only [ec] at g
                cases g
                refine ⟨μ5, e1, s5, y, s6, S5, E4.nxt N5, em, fun μ6 H6 yv N6 S6 r6 => ?_⟩
                obtain ⟨us, d6, hz6, c7⟩ := (c5.step N6 S6).app r6 hz
                exact ⟨us, d6, hz6, μ6, s6, ys', c7, ec⟩
theorem blk_ok {N : List Str} {sc : Scope} (hX : In X N sc) (h : blkC N sc scope own = true) : BlkOk X.N X.env.scope scope own := by
  rw [hX.n, hX.s]
  exact blkOk_by h
/-- [elt for tg in iter if ..] -/
theorem re_comp {N : List Str} {sc : Scope} (hX : In X N sc) {it : IX} {p : Pat} {t : TX} {m : EX} (hi : RI X tg iter it) (ok : blkC N sc scope own = true) (hp : (p.slots.all fun i => decide (i ∈ own.map (·.2))) = true)
    (hg : ∀ (s : Shared) (H : Hp) (C : Addr) (cl : List (Str × Addr)) (fp : List Addr), RG (X.blk s H scope (compEnvC scope cl C X.env) fp) tg p) (ht : ∀ (s : Shared) (H : Hp) (C : Addr) (cl : List (Str × Addr)) (fp : List Addr), RTs (X.blk s H scope (compEnvC scope cl C X.env) fp) ifs t)
    (he : ∀ (s : Shared) (H : Hp) (C : Addr) (cl : List (Str × Addr)) (fp : List Addr), RE (X.blk s H scope (compEnvC scope cl C X.env) fp) elt m) (hs : ∀ x, foldedSetIterable iter X.env x = pure x := by intro _; rfl) :
    RE X (.ListComp elt [⟨tg, iter, ifs, 0⟩] scope pos) (eComp it p t m (own.map (·.2))) :=
  pe_imp (pe_lc hX.calm (by rw [hX.n]; exact hX.nd) hi (blk_ok hX ok) hg ht he hs) fun σ H Q h => comp_run hp h
theorem rs_setComp {N : List Str} {sc : Scope} (hX : In X N sc) {i : Nat} {y : Str} {py : Pos} {spos : Pos} {it : IX} {p : Pat} {t : TX} {m : EX} (hy : ixOk N i y = true) (hyl : locB sc y = true)
    (hsw : ∀ env : Env, env.scope = sc → swapsWith (.ListComp elt [⟨tg, iter, ifs, 0⟩] scope pos) (some (.Name y py)) spos.line env = pure true) (hi : RI X tg iter it) (ok : blkC N sc scope own = true) (hp : (p.slots.all fun i => decide (i ∈ own.map (·.2))) = true)
    (hg : ∀ (s : Shared) (H : Hp) (C : Addr) (cl : List (Str × Addr)) (fp : List Addr), RG (X.blk s H scope (compEnvC scope cl C X.env) fp) tg p) (ht : ∀ (s : Shared) (H : Hp) (C : Addr) (cl : List (Str × Addr)) (fp : List Addr), RTs (X.blk s H scope (compEnvC scope cl C X.env) fp) ifs t)
    (he : ∀ (s : Shared) (H : Hp) (C : Addr) (cl : List (Str × Addr)) (fp : List Addr), RE (X.blk s H scope (compEnvC scope cl C X.env) fp) elt m) (hs : ∀ x, foldedSetIterable iter X.env x = pure x := by intro _; rfl) :
    RS X (.Assign [.Name y py] (.ListComp elt [⟨tg, iter, ifs, 0⟩] scope pos) spos) (sPat (.nm i) (eComp it p t m (own.map (·.2)))) :=
  ps_imp (ps_setLc (i := i) hX.calm (by rw [hX.n]; exact hX.nd) (by rw [hX.n]; exact of_decide_eq_true hy) (locB_ok hX hyl) (hsw X.env hX.s) hi (blk_ok hX ok) hg ht he hs) fun D σ H h => comp_run hp (asg_run h)
end
end Rx

/-! RxH: expressions on a store of their own, defs, their calls. -/
namespace Rx
open PySem PySem.Spec PyProof.Rows L2

/-! ### a value moved up the store -/
mutual
def W.up (L : Nat) : W → W
  | .tup xs => .tup (W.ups L xs)
  | .ls n => .ls (L + n)
  | w => w
def W.ups (L : Nat) : List W → List W
  | [] => []
  | x :: xs => x.up L :: W.ups L xs
end
def Ob.up (L : Nat) : Ob → Ob
  | .lst xs => .lst (W.ups L xs)
def Ob.low (L : Nat) : Ob → Bool
  | .lst xs => W.lows L xs
section
variable {K : PySem.W.Frag} {μ μ' : Nat → Addr} {L L' M : Nat} {H H' : Hp}
mutual
theorem Rep.up (mu : ∀ i, i < L → μ' (M + i) = μ i) (le : M + L ≤ L') : ∀ {v : V} {w : W}, Rep K μ L H v w → Rep K μ' L' H v (w.up M)
  | _, _, .non => .non
  | _, _, .bl b => .bl b
  | _, _, .int i => .int i
  | _, _, .str x => .str x
  | _, _, .ty n => .ty n
  | _, _, .tup h r => .tup h (Reps.up mu le r)
  | _, _, .ls (n := n) h => by
    rw [← mu n h]
    exact .ls (Nat.lt_of_lt_of_le (Nat.add_lt_add_left h M) le)
  | _, _, .frz h => .frz h
theorem Reps.up (mu : ∀ i, i < L → μ' (M + i) = μ i) (le : M + L ≤ L') : ∀ {vs : List V} {ws : List W}, Reps K μ L H vs ws → Reps K μ' L' H vs (W.ups M ws)
  | _, _, .nil => .nil
  | _, _, .cons r rs => .cons (Rep.up mu le r) (Reps.up mu le rs)
end
end
/-- what a run on a store of its own hands back to a store -/
def pureR (st : Sto) (r : R W) : R W := match r with
  | .err => .err
  | .ok w s => if w.low 0 = true then .ok w st else match w with
    | .ls n => match s[n]? with
      | some (.lst xs) => if W.lows 0 xs = true then .ok (.ls st.length) (st ++ [.lst xs]) else .ok (.ls (st.length + n)) (st ++ s.map (Ob.up st.length))
      | none => .err
    | w => .ok (w.up st.length) (st ++ s.map (Ob.up st.length))
def pureT (st : Sto) (r : R Bool) : R Bool := match r with
  | .err => .err
  | .ok b _ => .ok b st
section
variable {K : PySem.W.Frag} {μ μ' μ1 : Nat → Addr} {st s : Sto} {H H1 : Hp} {w : W} {v : V}
theorem Nxt.from0 (N : Nxt K μ 0 H μ' s.length H1) : Nxt K μ st.length H μ st.length H1 :=
  ⟨N.tp, N.fz, fun _ _ => rfl, Nat.le_refl _, fun a o h _ => N.fr a o h fun i hi => absurd hi (Nat.not_lt_zero _), N.ks, fun i h h' => absurd h (Nat.not_le_of_lt h')⟩
theorem Sim.keep (S : Sim K μ st H) (N : Nxt K μ st.length H μ st.length H1) (hf : ∀ a o, H a = some o → H1 a = some o) : Sim K μ st H1 := by
  refine ⟨fun i o e => ?_, S.inj⟩
  have q := S.at_ i o e
  cases o with
  | lst ws =>
    obtain ⟨vs, h1, h2⟩ := q
    exact ⟨vs, hf _ _ h1, h2.nxt N⟩
theorem Sim.nil : Sim K μ [] H := ⟨fun i o e => by simp at e, fun i j h => absurd h (Nat.not_lt_zero _)⟩
/-- the list D is the store's from now on -/
theorem Sim.adopt {D : Addr} {vs : List V} {xs : List W} (S : Sim K μ st H) (h : H D = some (.lst vs)) (r : Reps K μ st.length H vs xs) (hne : ∀ i, i < st.length → μ i ≠ D) : Sim K (muAt μ st.length D) (st ++ [.lst xs]) H := by
  have hl : (st ++ [Ob.lst xs]).length = st.length + 1 := by simp
  have rr : ∀ {vs : List V} {ws : List W}, Reps K μ st.length H vs ws → Reps K (muAt μ st.length D) (st.length + 1) H vs ws := fun {vs ws} r =>
    r.step (fun _ _ h => h) (fun _ _ h => h) (fun i hi => muAt_lt hi) (Nat.le_succ _)
  refine ⟨fun i ob e => ?_, fun i j hi hj e => ?_⟩
  · rw [hl]
    by_cases hi : i < st.length
    · rw [List.getElem?_append_left hi] at e
      rw [muAt_lt hi]
      have := S.at_ i ob e
      cases ob with
      | lst ws =>
        obtain ⟨vs', q1, q2⟩ := this
        exact ⟨vs', q1, rr q2⟩
    · have : i = st.length := by
        have := lt_of_get e
        rw [hl] at this; omega
      subst this
      rw [List.getElem?_append_right (Nat.le_refl _)] at e
      simp at e
      subst e
      rw [muAt_eq]
      exact ⟨vs, h, rr r⟩
  · rw [hl] at hi hj
    by_cases h1 : i < st.length
    · by_cases h2 : j < st.length
      · rw [muAt_lt h1, muAt_lt h2] at e
        exact S.inj i j h1 h2 e
      · have : j = st.length := by omega
        subst this
        rw [muAt_lt h1, muAt_eq] at e
        exact absurd e (hne i h1)
    · have : i = st.length := by omega
      subst this
      by_cases h2 : j < st.length
      · rw [muAt_lt h2, muAt_eq] at e
        exact absurd e.symm (hne j h2)
      · omega
/-- the other store's objects behind this one's -/
def muJoin (μ : Nat → Addr) (L : Nat) (μ' : Nat → Addr) : Nat → Addr := fun i => if i < L then μ i else μ' (i - L)
theorem muJoin_lt {L i : Nat} (h : i < L) : muJoin μ L μ' i = μ i := if_pos h
theorem muJoin_up {L i : Nat} : muJoin μ L μ' (L + i) = μ' i := by
  unfold muJoin
  rw [if_neg (by omega)]
  congr 1
  omega
theorem Sim.join (S : Sim K μ st H) (N : Nxt K μ 0 H μ' s.length H1) (S1 : Sim K μ' s H1) : Sim K (muJoin μ st.length μ') (st ++ s.map (Ob.up st.length)) H1 ∧ Nxt K μ st.length H (muJoin μ st.length μ') (st ++ s.map (Ob.up st.length)).length H1 := by
  have hl : (st ++ s.map (Ob.up st.length)).length = st.length + s.length := by simp
  have hf : ∀ a o, H a = some o → H1 a = some o := fun a o h => N.fr a o h fun i hi => absurd hi (Nat.not_lt_zero _)
  have S0 : Sim K μ st H1 := S.keep N.from0 hf
  have N1 : Nxt K μ st.length H (muJoin μ st.length μ') (st.length + s.length) H1 := ⟨N.tp, N.fz, fun i hi => muJoin_lt hi, Nat.le_add_right _ _, fun a o h _ => hf a o h, N.ks, fun i h h' => by
    have : i = st.length + (i - st.length) := by omega
    rw [this, muJoin_up]
    exact N.nw _ (Nat.zero_le _) (by omega)⟩
  have apart : ∀ i j, i < st.length → j < s.length → μ i ≠ μ' j := fun i j hi hj e => by
    have h1 := N.nw j (Nat.zero_le _) hj
    obtain ⟨xs, q⟩ := S.isL hi
    rw [e, h1] at q
    cases q
  refine ⟨⟨fun i ob e => ?_, fun i j hi hj e => ?_⟩, by rw [hl]; exact N1⟩
  · rw [hl]
    by_cases hi : i < st.length
    · rw [List.getElem?_append_left hi] at e
      rw [muJoin_lt hi]
      have := S0.at_ i ob e
      cases ob with
      | lst ws =>
        obtain ⟨vs', q1, q2⟩ := this
        exact ⟨vs', q1, q2.step (fun _ _ h => h) (fun _ _ h => h) (fun i hi => muJoin_lt hi) (Nat.le_add_right _ _)⟩
    · rw [List.getElem?_append_right (Nat.le_of_not_lt hi)] at e
      have hi2 : i = st.length + (i - st.length) := by omega
      rw [hi2, muJoin_up]
      rw [List.getElem?_map] at e
      cases e2 : s[i - st.length]? with
      | none => rw [e2] at e; cases e
      | some o2 =>
        rw [e2] at e
        cases e
        have := S1.at_ _ o2 e2
        cases o2 with
        | lst ws =>
          obtain ⟨vs', q1, q2⟩ := this
          exact ⟨vs', q1, q2.up (fun i hi => muJoin_up) (Nat.le_refl _)⟩
  · rw [hl] at hi hj
    by_cases h1 : i < st.length
    · by_cases h2 : j < st.length
      · rw [muJoin_lt h1, muJoin_lt h2] at e
        exact S.inj i j h1 h2 e
      · have hj2 : j = st.length + (j - st.length) := by omega
        rw [muJoin_lt h1, hj2, muJoin_up] at e
        exact absurd e (apart _ _ h1 (by omega))
    · have hi2 : i = st.length + (i - st.length) := by omega
      by_cases h2 : j < st.length
      · rw [muJoin_lt h2, hi2, muJoin_up] at e
        exact absurd e.symm (apart _ _ h2 (by omega))
      · have hj2 : j = st.length + (j - st.length) := by omega
        rw [hi2, hj2, muJoin_up, muJoin_up] at e
        have := S1.inj _ _ (by omega) (by omega) e
        omega
theorem KE.pure {st' : Sto} {r : R W} {Q : VK} (S : Sim K μ st H) (h : pureR st r = .ok w st') (k : KE K μ st.length H w st' Q) : ∃ w0 s0, r = .ok w0 s0 ∧ KE K μ 0 H w0 s0 Q := by
  cases r with
  | err => cases h
  | ok w0 s0 =>
    refine ⟨w0, s0, rfl, fun μ' H' v N S' r => ?_⟩
    have hf : ∀ a o, H a = some o → H' a = some o := fun a o h => N.fr a o h fun i hi => absurd hi (Nat.not_lt_zero _)
    have N0 : Nxt K μ st.length H μ st.length H' := N.from0
    unfold pureR at h
    simp only [] at h
    split at h
    · cases h
      exact k _ _ _ N0 (S.keep N0 hf) (r.cut (M := 0) (fun i h => absurd h (Nat.not_lt_zero _)) (Nat.zero_le _) (by assumption))
    · split at h
      · rename_i n _
        obtain ⟨rfl, hn⟩ := rep_ls r
        split at h
        · rename_i xs e1
          split at h
          · rename_i hlow
            cases h
            obtain ⟨vs, h1, h2⟩ := S'.lstAt e1
            have r2 : Reps K μ st.length H' vs xs := h2.cut (M := 0) (fun i h => absurd h (Nat.not_lt_zero _)) (Nat.zero_le _) hlow
            have hl : (st ++ [Ob.lst xs]).length = st.length + 1 := by simp
            have hnone := N.nw n (Nat.zero_le _) hn
            have S2 : Sim K (muAt μ st.length (μ' n)) (st ++ [.lst xs]) H' := (S.keep N0 hf).adopt h1 r2 fun i hi e => by
              obtain ⟨ys, q⟩ := S.isL hi
              rw [e, hnone] at q
              cases q
            refine k _ _ _ ⟨N.tp, N.fz, fun i hi => muAt_lt hi, by rw [hl]; exact Nat.le_succ _, fun a o h _ => hf a o h, N.ks, fun i hi hi2 => ?_⟩ S2 ?_
            · rw [hl] at hi2
              have : i = st.length := by omega
              subst this
              rw [muAt_eq]
              exact hnone
            · have q : Rep K (muAt μ st.length (μ' n)) (st ++ [Ob.lst xs]).length H' (.ref (muAt μ st.length (μ' n) st.length)) (.ls st.length) := .ls (by rw [hl]; exact Nat.lt_succ_self _)
              rw [muAt_eq] at q
              exact q
          · cases h
            obtain ⟨S2, N2⟩ := S.join N S'
            refine k _ _ _ N2 S2 ?_
            exact r.up (M := st.length) (fun i hi => muJoin_up) (by simp)
        · cases h
      · cases h
        obtain ⟨S2, N2⟩ := S.join N S'
        exact k _ _ _ N2 S2 (r.up (M := st.length) (fun i hi => muJoin_up) (by simp))
theorem KT.pure {st' : Sto} {b : Bool} {r : R Bool} {Q : Bool → Hp → Prop} (S : Sim K μ st H) (h : pureT st r = .ok b st') (k : KT K μ st.length H b st' Q) : ∃ s0, r = .ok b s0 ∧ KT K μ 0 H b s0 Q := by
  cases r with
  | err => cases h
  | ok w0 s0 =>
    cases h
    refine ⟨s0, rfl, fun μ' H' N S' => ?_⟩
    have N0 : Nxt K μ st.length H μ st.length H' := N.from0
    exact k _ _ N0 (S.keep N0 fun a o h => N.fr a o h fun i hi => absurd hi (Nat.not_lt_zero _))
end

/-! ### an expression by these slots alone -/
def pickE (env : Env') (vs : List Nat) : Env' := (List.range env.length).map fun i => if vs.contains i then (env[i]?).join else none
def lowE (env : Env') (vs : List Nat) : Bool := vs.all fun i => match env[i]? with
  | some (some w) => w.low 0
  | _ => true
/-- on a store of its own if it asks no object of this one -/
def frE (vs : List Nat) (m : EX) : EX := fun env st => if lowE env vs = true then pureR st (m (pickE env vs) []) else m env st
def frT (vs : List Nat) (m : TX) : TX := fun env st => if lowE env vs = true then pureT st (m (pickE env vs) []) else m env st
theorem pickE_get {env : Env'} {vs : List Nat} {i : Nat} {w : W} (h : (pickE env vs)[i]? = some (some w)) : i ∈ vs ∧ env[i]? = some (some w) := by
  unfold pickE at h
  rw [List.getElem?_map] at h
  by_cases hi : i < env.length
  · rw [List.getElem?_range hi] at h
    simp only [Option.map_some, Option.some.injEq] at h
    split at h
    · rename_i hc
      rw [List.contains_iff_mem] at hc
      refine ⟨hc, ?_⟩
      cases e : env[i]? with
      | none => rw [e] at h; cases h
      | some o => rw [e] at h; exact congrArg some h
    · cases h
  · rw [List.getElem?_eq_none (by simpa using hi)] at h
    cases h
theorem EnvR.pick {K : PySem.W.Frag} {μ : Nat → Addr} {L : Nat} {H : Hp} {env : Env'} {σ : L2.St} {vs : List Nat} (E : EnvR K μ L H env σ) (h : lowE env vs = true) : EnvR K μ 0 H (pickE env vs) σ := by
  refine ⟨by unfold pickE; rw [List.length_map, List.length_range]; exact E.len, fun i w q => ?_⟩
  obtain ⟨hm, he⟩ := pickE_get q
  obtain ⟨v, h1, h2⟩ := E.at_ i w he
  refine ⟨v, h1, ?_⟩
  have := List.all_eq_true.mp h i hm
  rw [he] at this
  exact h2.cut (M := 0) (fun i h => absurd h (Nat.not_lt_zero _)) (Nat.zero_le _) this
section
variable {X : Cx} {e : Expr}
theorem re_fr {m : EX} (vs : List Nat) (h : RE X e m) : RE X e (frE vs m) := pe_imp h fun σ H Q ⟨μ, env, st, w, st', S, E, h, k⟩ => by
  unfold frE at h
  split at h
  · rename_i hl
    obtain ⟨w0, s0, h1, k1⟩ := KE.pure S h k
    exact ⟨μ, _, [], w0, s0, Sim.nil, E.pick hl, h1, k1⟩
  · exact ⟨μ, env, st, w, st', S, E, h, k⟩
theorem rt_fr {m : TX} (vs : List Nat) (h : RT X e m) : RT X e (frT vs m) := pt_imp h fun σ H Q ⟨μ, env, st, w, st', S, E, h, k⟩ => by
  unfold frT at h
  split at h
  · rename_i hl
    obtain ⟨s0, h1, k1⟩ := KT.pure S h k
    exact ⟨μ, _, [], w, s0, Sim.nil, E.pick hl, h1, k1⟩
  · exact ⟨μ, env, st, w, st', S, E, h, k⟩
end

theorem lA_mono {K : PySem.W.Frag} {n : AX} {σ : L2.St} {H : Hp} {Q Q' : List V → Hp → Prop} (h : lA K n σ H Q) (i : ∀ vs H1, Q vs H1 → Q' vs H1) : lA K n σ H Q' := by
  obtain ⟨μ, env, st, ws, st', S, E, h, k⟩ := h
  exact ⟨μ, env, st, ws, st', S, E, h, fun μ1 H1 vs N S1 r => i _ _ (k μ1 H1 vs N S1 r)⟩
/-! ### calls -/
/-- what a run leaves behind is dropped where nothing asks for it -/
def trimR (L : Nat) (r : R W) : R W := match r with
  | .err => .err
  | .ok w s => if (s.take L).all (Ob.low L) = true then
      if w.low L = true then .ok w (s.take L) else match w with
      | .ls n => match s[n]? with
        | some (.lst xs) => if W.lows L xs = true then .ok (.ls L) (s.take L ++ [.lst xs]) else .ok w s
        | none => .err
      | w => .ok w s
    else .ok w s
def callM (f : FX) : FX := fun ws st => if W.lows 0 ws = true then pureR st (f ws []) else trimR st.length (f ws st)
section
variable {K : PySem.W.Frag} {μ μ' : Nat → Addr} {st s : Sto} {H H1 : Hp} {w : W} {v : V}
theorem KE.trim {L : Nat} {st' : Sto} {r : R W} {Q : VK} (h : trimR L r = .ok w st') (k : KE K μ L H w st' Q) : ∃ w0 s0, r = .ok w0 s0 ∧ KE K μ L H w0 s0 Q := by
  cases r with
  | err => cases h
  | ok w0 s0 =>
    refine ⟨w0, s0, rfl, fun μ' H' v N S' r => ?_⟩
    unfold trimR at h
    simp only [] at h
    split at h
    · rename_i hlow
      have hlen : (s0.take L).length = L := by rw [List.length_take, Nat.min_eq_left N.le]
      have N0 : Nxt K μ L H μ' L H' := ⟨N.tp, N.fz, N.mu, Nat.le_refl _, N.fr, N.ks, fun i h h' => absurd h (Nat.not_le_of_lt h')⟩
      have S0 : Sim K μ' (s0.take L) H' := by
        refine ⟨fun i o e => ?_, fun i j hi hj e => S'.inj i j (by rw [hlen] at hi; exact Nat.lt_of_lt_of_le hi N.le) (by rw [hlen] at hj; exact Nat.lt_of_lt_of_le hj N.le) e⟩
        have hi := lt_of_get e
        rw [hlen] at hi ⊢
        have hm : o ∈ s0.take L := List.mem_of_getElem? e
        rw [List.getElem?_take_of_lt hi] at e
        have q := S'.at_ i o e
        have hl := List.all_eq_true.mp hlow o hm
        cases o with
        | lst ws =>
          obtain ⟨vs, h1, h2⟩ := q
          exact ⟨vs, h1, h2.cut (M := L) (fun i _ _ => rfl) (Nat.le_refl _) hl⟩
      split at h
      · cases h
        exact k _ _ _ (by rw [hlen]; exact N0) S0 (by rw [hlen]; exact r.cut (M := L) (fun i _ _ => rfl) (Nat.le_refl _) (by assumption))
      · rename_i hnl
        split at h
        · rename_i n
          obtain ⟨rfl, hn⟩ := rep_ls r
          split at h
          · rename_i xs e1
            split at h
            · rename_i hxs
              cases h
              obtain ⟨vs, h1, h2⟩ := S'.lstAt e1
              have hnL : L ≤ n := by
                apply Nat.le_of_not_lt
                intro hlt
                apply hnl
                show Nat.blt n L = true
                rw [Nat.blt_eq]; exact hlt
              have r2 : Reps K μ' (s0.take L).length H' vs xs := h2.cut (M := L) (fun i _ _ => rfl) (by rw [hlen]; exact Nat.le_refl _) hxs
              have hl : (s0.take L ++ [Ob.lst xs]).length = L + 1 := by rw [List.length_append, hlen]; rfl
              have S2 : Sim K (muAt μ' (s0.take L).length (μ' n)) (s0.take L ++ [.lst xs]) H' := S0.adopt h1 r2 fun i hi e => by
                rw [hlen] at hi
                have := S'.inj i n (Nat.lt_of_lt_of_le hi N.le) hn e
                omega
              rw [hlen] at S2
              refine k _ _ _ ⟨N.tp, N.fz, fun i hi => (muAt_lt hi).trans (N.mu i hi), by rw [hl]; exact Nat.le_succ _, N.fr, N.ks, fun i hi hi2 => ?_⟩ S2 ?_
              · rw [hl] at hi2
                have : i = L := by omega
                subst this
                rw [muAt_eq]
                exact N.nw n hnL hn
              · have q : Rep K (muAt μ' L (μ' n)) (s0.take L ++ [Ob.lst xs]).length H' (.ref (muAt μ' L (μ' n) L)) (.ls L) := .ls (by rw [hl]; exact Nat.lt_succ_self _)
                rw [muAt_eq] at q
                exact q
            · cases h
              exact k _ _ _ N S' r
          · cases h
        · cases h
          exact k _ _ _ N S' r
    · cases h
      exact k _ _ _ N S' r
theorem call_in {f : FX} {vs : List V} {Q : VK} (h : lC K (callM f) vs H Q) : lC K f vs H Q := by
  obtain ⟨μ, st, ws, w, st', S, r, e, k⟩ := h
  unfold callM at e
  split at e
  · rename_i hl
    obtain ⟨w0, s0, h1, k1⟩ := KE.pure S e k
    exact ⟨μ, [], ws, w0, s0, Sim.nil, r.cut (M := 0) (fun i h => absurd h (Nat.not_lt_zero _)) (Nat.zero_le _) hl, h1, k1⟩
  · obtain ⟨w0, s0, h1, k1⟩ := KE.trim e k
    exact ⟨μ, st, ws, w0, s0, S, r, h1, k1⟩
end

/-! ### defs -/
structure Gx (X : Cx) (P : Program) (w : World) (K : PySem.W.Frag) (mg : Str → Option Value) (base : Heap) : Prop where
  prog : X.prog = P
  w : X.w = w
  K : X.K = K
  mg : X.mg = mg
  base : X.base = base
def mkFn (nN np : Nat) (body : SX) : FX := fun ws st => if ws.length = np then match body (ws.map some ++ List.replicate (nN - np) none) st with
  | .ok (.rt w) s => .ok w s
  | .ok (.nx _) s => .ok .non s
  | _ => .err else .err
def lP (K : PySem.W.Frag) (n : Nat) (f : FX) : Sp := fun vs H Q _ => vs.length = n ∧ lC K f vs H Q
section
variable {P : Program} {w : World} {K : PySem.W.Frag} {mg : Str → Option Value} {base : Heap}
theorem envR_start {μ : Nat → Addr} {L : Nat} {H : Hp} {N : List Str} {vs : List V} {ws : List W} {np : Nat} (r : Reps K μ L H vs ws) (hl : ws.length = np) : EnvR K μ L H (ws.map some ++ List.replicate (N.length - np) none) (L2.start N vs) := by
  have hlv := r.length
  unfold L2.start
  refine ⟨by simp [hlv, hl], fun i w h => ?_⟩
  by_cases hi : i < ws.length
  · rw [List.getElem?_append_left (by simpa using hi), List.getElem?_map] at h
    cases e : ws[i]? with
    | none => rw [e] at h; cases h
    | some w' =>
      rw [e] at h
      cases h
      obtain ⟨v, h1, h2⟩ := r.get e
      exact ⟨v, by rw [List.getElem?_append_left (by simpa [hlv] using hi), List.getElem?_map, h1]; rfl, h2⟩
  · rw [List.getElem?_append_right (by simpa using hi), List.getElem?_replicate] at h
    split at h <;> cases h
theorem fn_ok {x qual : Str} {st : Stmt} {f : Addr} {fd : FuncData} {N ps : List Str} {k : Nat} {body : SX} (F : Fun K x qual st f fd) (S : FnScope N ps (defScope st))
    (hb : ∀ X, InF X N (defScope st) → Gx X P w K mg base → Room k X.A → RSs X (defBody st) body) : FnOk P w K mg base CX0 (k + 1) f fd ps (lP K ps.length (mkFn N.length ps.length body)) := by
  refine F.ok S (fun vs H Q E h => h.1) fun cdv A outer s H vs Q E hr h => ?_
  obtain ⟨hl, μ, st0, ws, w0, st', Sm, r, e, k0⟩ := h
  refine ⟨_, hb _ ⟨⟨rfl, rfl, rfl, rfl, S.nd, hr.mono (Nat.zero_le _)⟩, fun _ _ => rfl⟩ ⟨rfl, rfl, rfl, rfl, rfl⟩ hr, ?_⟩
  unfold mkFn at e
  split at e
  · rename_i hlen
    split at e
    · rename_i w1 s1 he
      cases e
      exact ⟨μ, _, st0, _, _, Sm, envR_start r hlen, he, fun μ' H' N' S' v rv => k0 _ _ v N' S' rv⟩
    · rename_i e1 s1 he
      cases e
      exact ⟨μ, _, st0, _, _, Sm, envR_start r hlen, he, fun μ' H' N' S' σ' E' => k0 _ _ _ N' S' .non⟩
    · cases e
  · cases e
/-- a look at the names of a def's scope -/
def scB (N P : List Str) (sc : Scope) : Bool :=
  decide (sc.kind = .function) && !sc.isCoroutine && !sc.isGenerator && decide N.Nodup && decide (N.take P.length = P) && P.all (fun x => decide (sc.names.lookup x = some .local) || decide (sc.names.lookup x = some .cell)) && sc.names.all (fun y => !decide (y.2 = .free))
theorem scB_ok {N P : List Str} {sc : Scope} (h : scB N P sc = true) : FnScope N P sc := by
  unfold scB at h
  simp only [Bool.and_eq_true, Bool.not_eq_true', decide_eq_true_eq, List.all_eq_true, Bool.or_eq_true, decide_eq_false_iff_not] at h
  obtain ⟨⟨⟨⟨⟨⟨h1, h2⟩, h3⟩, h4⟩, h5⟩, h6⟩, h7⟩ := h
  exact ⟨h1, h2, h3, h4, h5, h6, h7⟩
/-- a def that may be called by its name: level k, its parameters, its mirror -/
structure Cl (P : Program) (w : World) (K : PySem.W.Frag) (mg : Str → Option Value) (base : Heap) (k : Nat) (x : Str) (ps : List Str) (f : FX) : Prop where
  ex : ∃ (a : Addr) (fd : FuncData), FnOk P w K mg base CX0 k a fd ps (lP K ps.length f) ∧ mg x = some (.ref a) ∧ PySem.W.keepIn K (.ref a) = true ∧ Binds K fd ps [] ∧
    ∀ (s : Shared) (ws : List Value), ws.length = ps.length → BindsTo s fd ⟨[], ps.zip ws⟩ (ps.zip ws)
theorem Cl.mono {j k : Nat} {x : Str} {ps : List Str} {f : FX} (c : Cl P w K mg base j x ps f) (h : j ≤ k) : Cl P w K mg base k x ps f := by
  obtain ⟨a, fd, F, h2, h3, h4, h5⟩ := c.ex
  exact ⟨a, fd, F.mono h, h2, h3, h4, h5⟩
theorem cl_of {x y : Str} {st : Stmt} {a : Addr} {fd : FuncData} {N ps : List Str} {k : Nat} {body : SX} (F : Fun K y y st a fd) (hm : mg x = some (.ref a)) (S : scB N ps (defScope st) = true)
    (hbd : ∀ (kV doc pm : Value) (an : Option Addr) (cdv ct : Value) (us : List Value), us.length = ps.length → bindArgs (PySem.W.fnOf y y (defArgs st) (defBody st) (defScope st) .none kV doc pm an cdv ct) ⟨us, []⟩ = pure (ps.zip us))
    (hbk : ∀ (kV doc pm : Value) (an : Option Addr) (cdv ct : Value) (us : List Value), us.length = ps.length → bindArgs (PySem.W.fnOf y y (defArgs st) (defBody st) (defScope st) .none kV doc pm an cdv ct) ⟨[], ps.zip us⟩ = pure (ps.zip us))
    (hb : ∀ X, InF X N (defScope st) → Gx X P w K mg base → Room k X.A → RSs X (defBody st) body) : Cl P w K mg base (k + 1) x ps (mkFn N.length ps.length body) := by
  refine ⟨a, fd, fn_ok F (scB_ok S) hb, hm, F.kp, F.binds hbd, ?_⟩
  obtain ⟨oc, od, kV, doc, pm, an, cdv, ct, osl, rfl, lk, hcd⟩ := F.ex
  exact fun s ws hl => .of_eq (hbk kV doc pm an cdv ct ws hl)
end
section
variable {X : Cx} {P : Program} {w : World} {K : PySem.W.Frag} {mg : Str → Option Value} {base : Heap} {N : List Str} {sc : Scope} {k j : Nat} {x : Str} {ps : List Str} {f : FX} {e : Expr} {es : List Expr} {p pos : Pos} {n : AX} {kws : List Keyword}
theorem call_sp {n : Nat} {vs : List V} {H : Hp} {Q : VK} (hl : ∀ (ws : List W) (st : Sto) (r : W) (st' : Sto), f ws st = .ok r st' → ws.length = n) (h : lC K (callM f) vs H Q) : lP K n f vs H Q E0 := by
  have h1 := call_in h
  obtain ⟨μ, st, ws, w, st', S, r, e, k⟩ := h1
  exact ⟨by rw [r.length]; exact hl _ _ _ _ e, μ, st, ws, w, st', S, r, e, k⟩
/-- a mirror takes so many values -/
def Ar (n : Nat) (f : FX) : Prop := ∀ (ws : List W) (st : Sto) (r : W) (st' : Sto), f ws st = .ok r st' → ws.length = n
theorem ar_mk {nN np : Nat} {body : SX} : Ar np (mkFn nN np body) := fun ws st r st' h => by
  unfold mkFn at h
  split at h
  · assumption
  · cases h
theorem re_call (hX : In X N sc) (G : Gx X P w K mg base) (c : Cl P w K mg base k x ps f) (ar : Ar ps.length f) (hr : Room j X.A) (hk : k ≤ j) (hg : glB sc x = true) (ha : RA X (e :: es) n)
    (hdb : (x == ("__debug__" : Str)) = false := by decide) (he : starEach (e :: es) X.env = (false, eval e X.env) :: starEach es X.env := by rfl) (hpl : (backTo pos (starEach es X.env)).any (·.1) = false := by rfl) :
    RE X (.Call (.Name x p) (e :: es) [] pos) (eCall (callM f) n) := by
  obtain ⟨rfl, rfl, rfl, rfl, rfl⟩ := G
  obtain ⟨a, fd, F, hm, kp, b, _⟩ := c.ex
  refine pe_imp (pe_call F (hr.mono hk) (hX.gl hg) hm kp b .nil pass0 ha hdb he hpl) fun σ H Q h => ?_
  have h1 := call_run h
  refine lA_mono h1 fun vs H1 q => ?_
  rw [List.append_nil]
  exact call_sp ar q
theorem re_call0 (hX : In X N sc) (G : Gx X P w K mg base) (c : Cl P w K mg base k x ps f) (ar : Ar ps.length f) (hr : Room j X.A) (hk : k ≤ j) (hg : glB sc x = true)
    (hdb : (x == ("__debug__" : Str)) = false := by decide) :
    RE X (.Call (.Name x p) [] [] pos) (eCall (callM f) aNil) := by
  obtain ⟨rfl, rfl, rfl, rfl, rfl⟩ := G
  obtain ⟨a, fd, F, hm, kp, b, _⟩ := c.ex
  refine pe_imp (pe_call0 F (hr.mono hk) (hX.gl hg) hm kp b .nil pass0 hdb) fun σ H Q ⟨μ, env, st, w, st', S, E, h, k⟩ => ?_
  exact call_sp ar ⟨μ, st, [], w, st', S, .nil, h, k⟩
abbrev RK (X : Cx) (kws : List Keyword) (n : AX) : Prop := PK X kws (lA X.K n)
theorem pk_imp {t t' : TA} (h : PK X kws t) (i : ∀ σ H Q, t' σ H Q → t σ H Q) : PK X kws t' := ⟨fun pos pins s σ H Q I q => h.run pos pins s σ H Q I (i σ H Q q)⟩
theorem rk_nil : RK X [] aNil := pk_imp pk_nil fun σ H Q ⟨μ, env, st, w, st', S, E, h, k⟩ => by
  cases h
  exact k _ _ _ Nxt.refl S .nil
theorem rk_cons {nm : Option Str} {kpos : Pos} {m : EX} (ha : RE X e m) (hr : RK X kws n) : RK X (⟨nm, e, kpos⟩ :: kws) (aCons m n) :=
  pk_imp (pk_cons ha hr) fun σ H Q ⟨μ, env, st, w, st', S, E, h, k⟩ => by
    obtain ⟨x, s1, h1, h2⟩ := R.bind_ok h
    obtain ⟨xs, s2, h3, h4⟩ := R.bind_ok h2
    cases h4
    exact ⟨μ, env, st, x, s1, S, E, h1, fun μ1 H1 v N1 S1 r1 => ⟨μ1, env, s1, xs, _, S1, E.nxt N1, h3, fun μ2 H2 vs N2 S2 r2 => k _ _ _ (N1.trans N2) S2 (.cons (r1.nxt N2) r2)⟩⟩
/-- f(k = v, ..), all by keywords, in the parameters' order -/
theorem re_callK (hX : In X N sc) (G : Gx X P w K mg base) (c : Cl P w K mg base k x ps f) (ar : Ar ps.length f) (hr : Room j X.A) (hk : k ≤ j) (hg : glB sc x = true) (hkw : RK X kws n)
    (hall : (backToKw pos (keywordEach kws X.env)).all (·.1.isSome) = true := by rfl) (hks : (backToKw pos (keywordEach kws X.env)).filterMap (·.1) = ps := by rfl)
    (hdb : (x == ("__debug__" : Str)) = false := by decide)
    (hpl : ((backTo pos (starEach [] X.env)).any (·.1) || (backToKw pos (keywordEach kws X.env)).any (·.1.isNone)) = false := by rfl) :
    RE X (.Call (.Name x p) [] kws pos) (eCall (callM f) n) := by
  obtain ⟨rfl, rfl, rfl, rfl, rfl⟩ := G
  obtain ⟨a, fd, F, hm, kp, _, bk⟩ := c.ex
  refine ⟨fun pins s σ H Q I h => ?_⟩
  refine wpAny_Call_Name_kw (ld_glob I (hX.gl hg) hm ?_ hdb)
  refine PySem.W.callWith_KW0 (h₀ := X.base) I.ok.mod.kin kp hall (thn (hkw.run pos pins s σ H _ I (call_run h)) fun ws s2 ⟨zs, H2, I2, rz, q2⟩ => ⟨I2.kIn, ?_⟩) hpl
  rw [hks]
  have q3 := call_sp (n := ps.length) ar q2
  have hl : ws.length = ps.length := by rw [← rz.length]; exact q3.1
  refine wpAny_call (codeAny_mono (F.run X.A X.stack s2 H2 ⟨[], ps.zip ws⟩ ws zs Q E0 (hr.mono hk) I2.env0 (bk s2 ws hl) rz q3) fun r s' hq => ?_)
  cases r with
  | error e => exact pass0 pins σ H2 s2 e s' I2 hq
  | ok fl =>
    cases fl with
    | ret u => exact I2.after hq
    | next => exact False.elim hq
    | brk => exact False.elim hq
    | cont => exact False.elim hq
end
end Rx

/-! RxI: more rules: constants, chains of three, sums, enumerate, zip, reversed slices, ranges as tuples and lists, comprehensions of two clauses. -/
namespace Rx
open PySem PySem.Spec PyProof.Rows L2

/-- the names that the text leaves to the builtins -/
def bnames : List Str := ["len", "abs", "int", "max", "min", "all", "any", "tuple", "list", "sum", "range", "isinstance", "sorted", "set", "enumerate", "zip", "bool", "str", "reversed", "dict", "ValueError"]
def bnB (x : Str) : Bool := bnames.contains x
def Bn (mg : Str → Option Value) : Prop := ∀ x, x ∈ bnames → mg x = none
section
variable {X : Cx} {P : Program} {w : World} {K : PySem.W.Frag} {mg : Str → Option Value} {base : Heap} {N : List Str} {sc : Scope}
theorem Gx.no (G : Gx X P w K mg base) (B : Bn mg) {x : Str} (h : bnB x = true) : X.mg x = none := by
  rw [G.mg]
  exact B x (List.contains_iff_mem.mp h)
theorem Gx.gm (G : Gx X P w K mg base) {x : Str} {u : Value} (h : mg x = some u) : X.mg x = some u := by rw [G.mg]; exact h
theorem Gx.blk (G : Gx X P w K mg base) {s : Shared} {H : Hp} {scope : Scope} {C : Addr} {cl : List (Str × Addr)} {fp : List Addr} : Gx (X.blk s H scope (compEnvC scope cl C X.env) fp) P w K mg base := ⟨G.prog, G.w, G.K, G.mg, G.base⟩
theorem re_globI (hX : In X N sc) (G : Gx X P w K mg base) {x : Str} {i : Int} {pos : Pos} (hg : glB sc x = true) (h : ∃ t, mg x = some (.int i t)) (hd : (x == ("__debug__" : Str)) = false) : RE X (.Name x pos) (cst (.int i)) := by
  obtain ⟨t, h⟩ := h
  exact re_glob hX hg (G.gm h) (v := .int i) ⟨t, rfl⟩ (fun _ _ _ => .int _) hd
/-- a module's tuple of plain things -/
theorem re_globT (hX : In X N sc) (G : Gx X P w K mg base) {x : Str} {vs : List V} {ws : List W} {pos : Pos} (hg : glB sc x = true) (h : ∃ a, mg x = some (.ref a) ∧ SqT K (fun _ => none) a vs) (hr : ∀ (μ : Nat → Addr) (L : Nat) (H : Hp), Reps X.K μ L H vs ws) (hd : (x == ("__debug__" : Str)) = false) : RE X (.Name x pos) (cst (.tup ws)) := by
  obtain ⟨a, h, q⟩ := h
  have hk := G.K
  refine re_glob hX hg (G.gm h) (v := .ref a) rfl (fun μ L H => .tup ?_ (hr μ L H)) hd
  rw [hk]
  rcases q with q | q
  · rcases q with q | ⟨o, q⟩
    · cases q
    · cases q
  · exact .inr q
/-- a def of which nothing is told -/
theorem cl_err {x y : Str} {st : Stmt} {a : Addr} {fd : FuncData} {ps : List Str} (F : Fun K y y st a fd) (hm : mg x = some (.ref a))
    (hbd : ∀ (kV doc pm : Value) (an : Option Addr) (cdv ct : Value) (us : List Value), us.length = ps.length → bindArgs (PySem.W.fnOf y y (defArgs st) (defBody st) (defScope st) .none kV doc pm an cdv ct) ⟨us, []⟩ = pure (ps.zip us))
    (hbk : ∀ (kV doc pm : Value) (an : Option Addr) (cdv ct : Value) (us : List Value), us.length = ps.length → bindArgs (PySem.W.fnOf y y (defArgs st) (defBody st) (defScope st) .none kV doc pm an cdv ct) ⟨[], ps.zip us⟩ = pure (ps.zip us)) :
    Cl P w K mg base 0 x ps (fun _ _ => .err) := by
  refine ⟨a, fd, ⟨fun vs H Q E h => h.1, fun A outer s H args us vs Q E _ _ _ _ h => ?_⟩, hm, F.kp, F.binds hbd, ?_⟩
  · obtain ⟨_, μ, st, ws, w, st', S, r, e, k⟩ := h
    cases e
  · obtain ⟨oc, od, kV, doc, pm, an, cdv, ct, osl, rfl, lk, hcd⟩ := F.ex
    exact fun s ws hl => .of_eq (hbk kV doc pm an cdv ct ws hl)
end

/-! ### a < b < c < d -/
section
variable {X : Cx} {a b c d e : Expr} {pos : Pos}
def eChain3 (f g h : W → W → Sto → R W) (ma mb mc md : EX) : EX := fun env st => (ma env st).bind fun x s1 => (mb env s1).bind fun y s2 => (f x y s2).bind fun z s3 => match z with
  | .bl true => (mc env s3).bind fun u s4 => (g y u s4).bind fun z2 s5 => match z2 with
    | .bl true => (md env s5).bind fun v s6 => h u v s6
    | .bl false => .ok (.bl false) s5
    | _ => .err
  | .bl false => .ok (.bl false) s3
  | _ => .err
def tChain3 (r1 r2 r3 : R2) (ta tb tc td : TE) : TE := fun σ H Q => ta σ H fun x H1 => tb σ H1 fun y H2 => r1 x y H2 fun z H3 => ∃ k, z = .bl k ∧
  (if k = true then tc σ H3 fun u H4 => r2 y u H4 fun z2 H5 => ∃ k2, z2 = .bl k2 ∧ (if k2 = true then td σ H5 fun v H6 => r3 u v H6 Q else Q (.bl false) H5) else Q (.bl false) H3)
theorem pe_chain3 {o1 o2 o3 : CmpOp} {r1 r2 r3 : R2} {ta tb tc td : TE} (h1 : OpR X (compareOp o1) r1) (h2 : OpR X (compareOp o2) r2) (h3 : OpR X (compareOp o3) r3) (ha : PE X a ta) (hb : PE X b tb) (hc : PE X c tc) (hd : PE X d td)
    (hm : lastMarks [o1, o2, o3] [b, c, d] = false) : PE X (.Compare a [o1, o2, o3] [b, c, d] pos) (tChain3 r1 r2 r3 ta tb tc td) := by
  refine ⟨fun pins s σ H Q I h => ?_⟩
  refine Compare_chain (thn (ha.run pins s σ H _ I h) fun v s1 ⟨x, H1, I1, q1, t1⟩ => chain_link (thn (hb.run pins s1 σ H1 _ I1 t1) fun u s2 ⟨y, H2, I2, q2, t2⟩ =>
    thn (h1 pins s2 σ H2 x y v u _ I2 q1 q2 t2) fun d s3 ⟨z, H3, I3, q3, k, e, t3⟩ => ?_)) hm
  subst e
  cases q3
  refine wpAny_truthy_bool ?_
  cases k with
  | false => exact ite_ff ⟨.bl false, H3, I3, rfl, t3⟩
  | true =>
    refine ite_tt (chain_link (thn (hc.run pins s3 σ H3 _ I3 t3) fun u' s4 ⟨z', H4, I4, q4, t4⟩ => thn (h2 pins s4 σ H4 y z' u u' _ I4 q2 q4 t4) fun d' s5 ⟨z5, H5, I5, q5, k2, e2, t5⟩ => ?_))
    subst e2
    cases q5
    refine wpAny_truthy_bool ?_
    cases k2 with
    | false => exact ite_ff ⟨.bl false, H5, I5, rfl, t5⟩
    | true => exact ite_tt (chain_last (thn (hd.run pins s5 σ H5 _ I5 t5) fun u6 s6 ⟨z6, H6, I6, q6, t6⟩ => h3 pins s6 σ H6 z' z6 u' u6 Q I6 q4 q6 t6))
theorem pt_chain3 {o1 o2 o3 : CmpOp} {r1 r2 r3 : R2} {ta tb tc td : TE} (h1 : OpR X (compareOp o1) r1) (h2 : OpR X (compareOp o2) r2) (h3 : OpR X (compareOp o3) r3) (ha : PE X a ta) (hb : PE X b tb) (hc : PE X c tc) (hd : PE X d td)
    (hm : lastMarks [o1, o2, o3] [b, c, d] = false) : PT X (.Compare a [o1, o2, o3] [b, c, d] pos) (tTest (tChain3 r1 r2 r3 ta tb tc td)) := by
  refine ⟨fun pins s σ H Q I h => ?_⟩
  refine isTrue_chain (thn (ha.run pins s σ H _ I h) fun v s1 ⟨x, H1, I1, q1, t1⟩ => test_link (thn (hb.run pins s1 σ H1 _ I1 t1) fun u s2 ⟨y, H2, I2, q2, t2⟩ =>
    thn (h1 pins s2 σ H2 x y v u _ I2 q1 q2 t2) fun d s3 ⟨z, H3, I3, q3, k, e, t3⟩ => ?_)) hm
  subst e
  cases q3
  refine wpAny_truthy_bool ?_
  cases k with
  | false =>
    obtain ⟨k', e', q'⟩ := t3
    cases e'
    exact ite_ff ⟨H3, I3, q'⟩
  | true =>
    refine ite_tt (test_link (thn (hc.run pins s3 σ H3 _ I3 t3) fun u' s4 ⟨z', H4, I4, q4, t4⟩ => thn (h2 pins s4 σ H4 y z' u u' _ I4 q2 q4 t4) fun d' s5 ⟨z5, H5, I5, q5, k2, e2, t5⟩ => ?_))
    subst e2
    cases q5
    refine wpAny_truthy_bool ?_
    cases k2 with
    | false =>
      obtain ⟨k', e', q'⟩ := t5
      cases e'
      exact ite_ff ⟨H5, I5, q'⟩
    | true =>
      refine ite_tt (test_last (thn (hd.run pins s5 σ H5 _ I5 t5) fun u6 s6 ⟨z6, H6, I6, q6, t6⟩ => thn (h3 pins s6 σ H6 z' z6 u' u6 _ I6 q4 q6 t6) fun d7 s7 ⟨z7, H7, I7, q7, k3, e3, t7⟩ => ?_))
      subst e3
      cases q7
      exact wpAny_truthy_bool ⟨H7, I7, t7⟩
theorem chain3_run {f g h : W → W → Sto → R W} {ma mb mc md : EX} {σ : L2.St} {H : Hp} {Q : VK} (hh : lE X.K (eChain3 f g h ma mb mc md) σ H Q) : tChain3 (lO X.K f) (lO X.K g) (lO X.K h) (lE X.K ma) (lE X.K mb) (lE X.K mc) (lE X.K md) σ H Q := by
  obtain ⟨μ, env, st, w, st', S, E, h, k⟩ := hh
  obtain ⟨a', s1, h1, h2⟩ := R.bind_ok h
  obtain ⟨b', s2, h3, h4⟩ := R.bind_ok h2
  obtain ⟨z, s3, h5, h6⟩ := R.bind_ok h4
  refine ⟨μ, env, st, a', s1, S, E, h1, fun μ1 H1 v N1 S1 r1 => ⟨μ1, env, s1, b', s2, S1, E.nxt N1, h3, fun μ2 H2 u N2 S2 r2 =>
    ⟨μ2, s2, a', b', z, s3, S2, r1.nxt N2, r2, h5, fun μ3 H3 d N3 S3 r3 => ?_⟩⟩⟩
  have hz : ∃ bb, z = .bl bb := by
    cases z with
    | bl bb => exact ⟨bb, rfl⟩
    | _ => cases h6
  obtain ⟨bb, rfl⟩ := hz
  cases r3
  refine ⟨bb, rfl, ?_⟩
  have E3 := ((E.nxt N1).nxt N2).nxt N3
  have N123 := (N1.trans N2).trans N3
  cases bb with
  | true =>
    simp only [if_true]
    obtain ⟨u', s4, h7, h8⟩ := R.bind_ok h6
    obtain ⟨z2, s5, h9, h10⟩ := R.bind_ok h8
    refine ⟨μ3, env, s3, u', s4, S3, E3, h7, fun μ4 H4 q N4 S4 r4 => ⟨μ4, s4, b', u', z2, s5, S4, (r2.nxt N3).nxt N4, r4, h9, fun μ5 H5 d5 N5 S5 r5 => ?_⟩⟩
    have hz2 : ∃ bb, z2 = .bl bb := by
      cases z2 with
      | bl bb => exact ⟨bb, rfl⟩
      | _ => cases h10
    obtain ⟨b2, rfl⟩ := hz2
    cases r5
    refine ⟨b2, rfl, ?_⟩
    cases b2 with
    | true =>
      simp only [if_true]
      obtain ⟨v', s6, h11, h12⟩ := R.bind_ok h10
      exact ⟨μ5, env, s5, v', s6, S5, (E3.nxt N4).nxt N5, h11, fun μ6 H6 q6 N6 S6 r6 => ⟨μ6, s6, u', v', w, st', S6, (r4.nxt N5).nxt N6, r6, h12, k.mono (((N123.trans N4).trans N5).trans N6)⟩⟩
    | false =>
      simp only [Bool.false_eq_true, if_false]
      cases h10
      exact k _ _ _ ((N123.trans N4).trans N5) S5 (.bl _)
  | false =>
    simp only [Bool.false_eq_true, if_false]
    cases h6
    exact k _ _ _ N123 S3 (.bl _)
theorem re_chain3 {o1 o2 o3 : CmpOp} {f g h : W → W → Sto → R W} {ma mb mc md : EX} (h1 : OpR X (compareOp o1) (lO X.K f)) (h2 : OpR X (compareOp o2) (lO X.K g)) (h3 : OpR X (compareOp o3) (lO X.K h)) (ha : RE X a ma) (hb : RE X b mb) (hc : RE X c mc) (hd : RE X d md)
    (hm : lastMarks [o1, o2, o3] [b, c, d] = false) : RE X (.Compare a [o1, o2, o3] [b, c, d] pos) (eChain3 f g h ma mb mc md) :=
  pe_imp (pe_chain3 h1 h2 h3 ha hb hc hd hm) fun σ H Q h => chain3_run h
theorem rt_chain3 {o1 o2 o3 : CmpOp} {f g h : W → W → Sto → R W} {ma mb mc md : EX} (h1 : OpR X (compareOp o1) (lO X.K f)) (h2 : OpR X (compareOp o2) (lO X.K g)) (h3 : OpR X (compareOp o3) (lO X.K h)) (ha : RE X a ma) (hb : RE X b mb) (hc : RE X c mc) (hd : RE X d md)
    (hm : lastMarks [o1, o2, o3] [b, c, d] = false) : RT X (.Compare a [o1, o2, o3] [b, c, d] pos) (tBl (eChain3 f g h ma mb mc md)) :=
  pt_imp (pt_chain3 h1 h2 h3 ha hb hc hd hm) fun σ H Q h => chain3_run (tBl_run h)

/-! ### sum -/
theorem call_sumT (hc : X.calm = true) : CallR X (.builtin "sum") (fun vs H Q => ∃ (a : Addr) (ns : List Int), vs = [V.ref a] ∧ SqT X.K H a (ns.map V.int) ∧ Q (.int ns.sum) H) := by
  intro pins s σ H vs us Q I r h
  obtain ⟨a, ns, rfl, hs, q⟩ := h
  obtain ⟨its, rv, ht, _⟩ := I.tuple hs
  rw [Vals.ref1 r]
  have hi := rv.ints
  obtain ⟨xs, e⟩ := hi.allInts.items
  have hn : numsOf its.toArray.toList = ns := by rw [show its.toArray.toList = its from rfl, hi.numsOf]
  have ht' : s.heap.IsTuple a its.toArray := ht
  rw [e] at ht' hn
  rw [nums_intItems] at hn
  refine PySem.W.ktm_sumG (I.ok.hd hc) ht' fun h' tk t' hk => ⟨.int _, H, I.kept hk, ⟨_, rfl⟩, ?_⟩
  rw [preSum_eq, List.take_of_length_le (by simp), hn]
  exact q
def gSum (a : W) (st : Sto) : R W := match seqW st a with
  | some xs => match intsW xs with
    | some ns => .ok (.int ns.sum) st
    | none => .err
  | none => .err
theorem c_sum {N : List Str} {sc : Scope} (hX : In X N sc) : CallR X (.builtin "sum") (lC X.K (f1 gSum)) := by
  intro pins s σ H vs us Q I r h
  obtain ⟨v, rfl, μ, st, a, w, st', S, ra, e, k⟩ := f1_run h
  unfold gSum at e
  split at e
  · rename_i xs h1
    split at e
    · rename_i ns h2
      cases e
      have := intsW_eq h2; subst this
      obtain ⟨p, vs', rfl, q, r1⟩ := seqW_ok S ra h1
      have := r1.ofInts; subst this
      rcases q with q | q
      · exact cr_sum hX.calm pins s σ H _ us Q I r ⟨p, ns, rfl, q, k.here S (.int _)⟩
      · exact call_sumT hX.calm pins s σ H _ us Q I r ⟨p, ns, rfl, q.sq, k.here S (.int _)⟩
    · cases e
  · cases e
/-! ### sorted, whole numbers -/
/-- ascending, by putting each in its place -/
def insI (x : Int) : List Int → List Int
  | [] => [x]
  | y :: ys => if x ≤ y then x :: y :: ys else y :: insI x ys
def sortI : List Int → List Int
  | [] => []
  | x :: xs => insI x (sortI xs)
theorem insI_perm (x : Int) : ∀ ys : List Int, (insI x ys).Perm (x :: ys)
  | [] => .refl _
  | y :: ys => by
    unfold insI
    split
    · exact .refl _
    · exact ((insI_perm x ys).cons y).trans (.swap x y ys)
theorem sortI_perm : ∀ xs : List Int, (sortI xs).Perm xs
  | [] => .refl _
  | x :: xs => (insI_perm x (sortI xs)).trans ((sortI_perm xs).cons x)
theorem insI_pw (x : Int) : ∀ ys : List Int, ys.Pairwise (· ≤ ·) → (insI x ys).Pairwise (· ≤ ·)
  | [], _ => List.pairwise_singleton _ _
  | y :: ys, h => by
    unfold insI
    obtain ⟨h1, h2⟩ := List.pairwise_cons.mp h
    split
    · rename_i hx
      refine List.pairwise_cons.mpr ⟨fun z hz => ?_, h⟩
      rcases List.mem_cons.mp hz with rfl | hz
      · exact hx
      · exact Int.le_trans hx (h1 z hz)
    · rename_i hx
      refine List.pairwise_cons.mpr ⟨fun z hz => ?_, insI_pw x ys h2⟩
      rcases List.mem_cons.mp ((insI_perm x ys).mem_iff.mp hz) with rfl | hz
      · omega
      · exact h1 z hz
theorem sortI_pw : ∀ xs : List Int, (sortI xs).Pairwise (· ≤ ·)
  | [] => .nil
  | x :: xs => insI_pw x _ (sortI_pw xs)
theorem sortI_uniq {xs ys : List Int} (p : ys.Perm xs) (h : ys.Pairwise (· ≤ ·)) : ys = sortI xs :=
  List.Perm.eq_of_pairwise (fun a b _ _ h1 h2 => Int.le_antisymm h1 h2) h (sortI_pw xs) (p.trans (sortI_perm xs).symm)
end

/-! ### reversed slices -/
theorem slice_rev (n : Nat) : Builtin.Slice.sliceAdjust none none (-1) (n : Int) = ((n : Int) - 1, -1) ∧ Builtin.Slice.slicePlaces ((n : Int) - 1) (-1) (-1) = n := by
  refine ⟨rfl, ?_⟩
  unfold Builtin.Slice.slicePlaces
  have h1 : ¬ ((-1 : Int) > 0) := by decide
  simp only [h1, if_false]
  split
  · rw [show (- -1 : Int) = 1 by decide, Int.ediv_one]
    omega
  · omega
theorem pick_rev (xs : Array Value) : ((List.range xs.size).filterMap fun (m : Nat) => xs[(((xs.size : Int) - 1) + (m : Int) * (-1)).toNat]?).toArray = xs.toList.reverse.toArray := by
  rw [← PySem.W.krv_pick]
  unfold slicePick
  rw [PySem.W.krv_bounds]
  show _ = ((sliceRange ((xs.size : Int) - 1) (-1) (-1)).filterMap (xs[·]?)).toArray
  rw [PySem.W.krv_sliceRange, List.filterMap_map]
  have h : ∀ l : List Nat, (∀ m ∈ l, m < xs.size) → l.filterMap (fun (m : Nat) => xs[(((xs.size : Int) - 1) + (m : Int) * (-1)).toNat]?) = l.filterMap ((fun x => xs[x]?) ∘ fun k => xs.size - 1 - k) := by
    intro l
    induction l with
    | nil => intro _; rfl
    | cons m l ih =>
      intro hl
      have hm := hl m List.mem_cons_self
      have e : (((xs.size : Int) - 1) + (m : Int) * (-1)).toNat = xs.size - 1 - m := by omega
      rw [List.filterMap_cons, List.filterMap_cons, ih fun z hz => hl z (List.mem_cons_of_mem _ hz)]
      simp only [e, Function.comp]
  rw [h _ fun m hm => List.mem_range.mp hm]
section
variable {prog : Program} {w : World} {A : Around} {E : Value → Shared → Prop} {s : Shared}
theorem sliceApplied_rev {sl : Addr} {vl vu vs : Value} {n : Nat} {Q : Int × Int × Nat → Shared → Prop} (hs : s.heap.IsSliceOf sl vl vu vs) (pl : IsPart vl none) (pu : IsPart vu none) (ps : IsPart vs (some (-1)))
    (h : Q ((n : Int) - 1, -1, n) s) : wpAny (model prog w) A (Builtin.Slice.sliceApplied (.ref sl) (pure (n : Int))) Q E s := by
  obtain ⟨os, hos, hcs, hds⟩ := id hs
  unfold Builtin.Slice.sliceApplied Builtin.Slice.sliceFields
  refine wpAny_bind (wpAny_bind (wpAny_field hos hds (x := vl) rfl (wpAny_bind (wpAny_field hos hds (x := vu) rfl (wpAny_bind (wpAny_field hos hds (x := vs) rfl (wpAny_pure ?_)))))))
  refine wpAny_bind (HT.slicePart_ ps ?_)
  show wpAny _ _ (if ((-1 : Int) == 0) = true then _ else _) _ _ s
  rw [if_neg (by decide)]
  refine wpAny_bind (HT.slicePart_ pl (wpAny_bind (HT.slicePart_ pu (wpAny_bind (wpAny_pure ?_)))))
  show wpAny _ _ (match Builtin.Slice.sliceAdjust none none (-1) (n : Int) with | (lo, hi) => pure (lo, (-1 : Int), Builtin.Slice.slicePlaces lo hi (-1))) _ _ s
  rw [(slice_rev n).1]
  show wpAny _ _ (pure ((n : Int) - 1, (-1 : Int), Builtin.Slice.slicePlaces ((n : Int) - 1) (-1) (-1))) _ _ s
  rw [(slice_rev n).2]
  exact wpAny_pure h
theorem getItem_tuple_rev {t sl : Addr} {items : Array Value} {vl vu vs : Value} {Q : Value → Shared → Prop} (ht : IsTup s.heap t items) (hs : s.heap.IsSliceOf sl vl vu vs) (pl : IsPart vl none) (pu : IsPart vu none) (ps : IsPart vs (some (-1)))
    (h : Q (.ref s.heap.objs.size) { s with heap := s.heap.push { cls := .type "tuple", data := .seq items.toList.reverse.toArray } })
    (hsz : items.size ≤ sizeLine) : wpAny (model prog w) A (getItem (.ref t) (.ref sl)) Q E s := by
  have htake : sizeOk (.seq items.toList.reverse.toArray) := by
    show (items.toList.reverse.toArray).size ≤ sizeLine
    rw [List.size_toArray, List.length_reverse, Array.length_toList]
    exact hsz
  obtain ⟨os, hos, hcs, hds⟩ := id hs
  have hTs : s.TypeIs (.ref sl) "slice" := ⟨os, hos, hcs⟩
  unfold getItem
  refine wpAny_holding ?_
  first | refine wpAny_bind (wpAny_pure ?_) | skip
  refine wpAny_bind (wpAny_sequenceKey ht.typeIs (by decide) ?_)
  refine wpAny_bind (wpAny_callSpecial?_slot (name := Str.ofString "__getitem__") ht.typeIs PyProof.Rows.slot_tuple_getitem
    (wpAny_call_entry PyProof.Rows.slot_tuple_getitem ht.typeIs PyProof.Rows.entry_tuple_getitem ?_ (PyProof.Rows.args_tuple_getitem _ _)))
  show wpAny _ _ (Builtin.Tuple.tupleItemsOf (.ref t) >>= _) _ _ s
  refine wpAny_bind (tupleItemsOf_ ht ?_)
  refine wpAny_bind (wpAny_typeOf hTs ?_)
  rw [if_pos (by decide)]
  refine wpAny_bind (sliceApplied_rev hs pl pu ps ?_)
  · have hno : ¬ ((((items.size : Int) - 1 == 0 && (-1 : Int) == 1) && items.size == items.size) = true) := by
      rw [show ((-1 : Int) == 1) = false by decide, Bool.and_false, Bool.false_and]
      exact Bool.false_ne_true
    show wpAny _ _ (if (((items.size : Int) - 1 == 0 && (-1 : Int) == 1) && items.size == items.size) = true then _ else _) _ _ s
    rw [if_neg hno, pick_rev]
    first
      | exact wpAny_bind (m := Builtin.Tuple.tupleExact _) (wpAny_newObj_type (wpAny_pure ⟨_, rfl, wpAny_pure h⟩) htake)
      | exact wpAny_bind (m := Builtin.Tuple.tupleExact _) (wpAny_newObj_type (wpAny_bind (wpAny_pure (wpAny_pure ⟨_, rfl, wpAny_pure h⟩))) htake)
      | exact wpAny_bind (wpAny_bind (m := Builtin.Tuple.tupleExact _) (wpAny_newObj_type (wpAny_pure (wpAny_pure ⟨_, rfl, wpAny_pure h⟩)) htake))
      | exact wpAny_bind (wpAny_bind (m := Builtin.Tuple.tupleExact _) (wpAny_newObj_type (wpAny_pure ⟨_, rfl, wpAny_pure h⟩) htake))
end
section
variable {X : Cx} {e : Expr} {pos : Pos}
def tRevT (K : PySem.W.Frag) (te : TE) : TE := fun σ H Q => te σ H fun x H1 => ∃ a xs, x = .ref a ∧ ((SqL K H1 a xs ∧ ∀ p, H1 p = none → Q (.ref p) (upd H1 p (.lst xs.reverse))) ∨ (SqT K H1 a xs ∧ ∀ p, H1 p = none → Q (.ref p) (upd H1 p (.tup xs.reverse))))
theorem pe_revT {te : TE} {k : Nat} {p1 p2 p3 : Pos} (he : PE X e te) : PE X (.Subscript e (.Slice none none (some (.UnaryOp .USub (.Constant (.int 1) k p1) p2)) p3) pos) (tRevT X.K te) := by
  refine ⟨fun pins s σ H Q I h => ?_⟩
  refine Subscript_ (thn (he.run pins s σ H _ I h) fun v s1 ⟨x, H1, I1, r1, q1⟩ => ?_)
  obtain ⟨a, xs, ex, q⟩ := q1
  subst ex
  cases r1
  have hst : PO X (some (.UnaryOp .USub (.Constant (.int 1) k p1) p2)) (tPart (tUn (rU fun i => .int (-i)) (tC (.int 1)))) := po_some (pe_un un_neg pe_int)
  refine wpAny_Slice (thn (po_none.run pins s1 σ H1 (fun o H2 => o = none ∧ H2 = H1) I1 ⟨rfl, rfl⟩) fun vl s2 ⟨l, H2, I2, pl, el, e2⟩ => ?_)
  subst el e2
  refine thn (po_none.run pins s2 σ H2 (fun o H3 => o = none ∧ H3 = H2) I2 ⟨rfl, rfl⟩) fun vu s3 ⟨u, H3, I3, pu, eu, e3⟩ => ?_
  subst eu e3
  refine thn (hst.run pins s3 σ H3 (fun o H4 => o = some (-1) ∧ H4 = H3) I3 ⟨1, rfl, -1, rfl, rfl, rfl⟩) fun vs s4 ⟨o, H4, I4, ps, eo, e4⟩ => ?_
  subst eo e4
  have I5 : Inv X pins σ H4 { s4 with heap := s4.heap.push { cls := .type "slice", data := .fields #[vl, vu, vs] } } := I4.kept (t' := s4.toks) fun b ob q => Heap.get?_push_of_some _ q
  show wpAny (model X.prog X.w) X.A (subscriptTail e (.Slice none none (some (.UnaryOp .USub (.Constant (.int 1) k p1) p2)) p3) (.ref a) (.ref s4.heap.objs.size)) (EP X pins σ Q) X.xe { s4 with heap := s4.heap.push { cls := .type "slice", data := .fields #[vl, vu, vs] } }
  rcases q with ⟨hx, q⟩ | ⟨hx, q⟩
  · obtain ⟨its, r, ht, hz⟩ := I5.list hx
    have hlen := r.length
    refine tail_any (ops := [.ref a, .ref s4.heap.objs.size]) ht.isList.typeIs (PySem.slot_list_getitem.lookup) ?_ (by with_unfolding_all rfl)
    refine wpAny_getItem_list_slice ht.isList (Heap.IsSliceOf.new _ vl vu vs) pl pu ps (by decide) ?_ (by rw [List.size_toArray]; omega)
    rw [PySem.W.krv_pick]
    refine ⟨.ref _, _, I5.laid (t' := s4.toks) (o := .lst xs.reverse) (fun b ob q => Heap.get?_push_of_some _ q) (Nat.le_refl _) ?_, rfl, q _ (I5.hok.fresh (Nat.le_refl _))⟩
    exact ⟨by rw [List.length_reverse]; exact hz, _, 0, r.reverse, Heap.get?_push_size _ rfl⟩
  · obtain ⟨its, r, ht, hz⟩ := I5.tuple hx
    have hlen := r.length
    refine tail_any (ops := [.ref a, .ref s4.heap.objs.size]) ht.typeIs (PyProof.Rows.slot_tuple_getitem.lookup) ?_ (by with_unfolding_all rfl)
    refine getItem_tuple_rev ht (Heap.IsSliceOf.new _ vl vu vs) pl pu ps ?_ (by rw [List.size_toArray]; omega)
    refine ⟨.ref _, _, I5.laid (t' := s4.toks) (o := .tup xs.reverse) (fun b ob q => Heap.get?_push_of_some _ q) (Nat.le_refl _) ?_, rfl, q _ (I5.hok.fresh (Nat.le_refl _))⟩
    exact ⟨by rw [List.length_reverse]; exact hz, _, r.reverse, IsTup.new _ _⟩
def fRev (x : W) (st : Sto) : R W := match x with
  | .tup xs => .ok (.tup xs.reverse) st
  | .ls n => match st[n]? with
    | some (.lst xs) => .ok (.ls st.length) (st ++ [.lst xs.reverse])
    | none => .err
  | .frz ns => .ok (.ls st.length) (st ++ [.lst (ns.map W.int).reverse])
  | _ => .err
theorem re_rev {m : EX} {k : Nat} {p1 p2 p3 : Pos} (he : RE X e m) : RE X (.Subscript e (.Slice none none (some (.UnaryOp .USub (.Constant (.int 1) k p1) p2)) p3) pos) (eUn fRev m) :=
  pe_imp (pe_revT he) fun σ H Q ⟨μ, env, st, w, st', S, E, h, k⟩ => by
    obtain ⟨x, s1, h1, h2⟩ := R.bind_ok h
    refine ⟨μ, env, st, x, s1, S, E, h1, fun μ1 H1 v N1 S1 r1 => ?_⟩
    have k1 := k.mono N1
    cases x with
    | tup xs =>
      cases h2
      obtain ⟨a, vs, rfl, t, r⟩ := rep_tup r1
      exact ⟨a, vs, rfl, .inr ⟨t.sq, fun p hp => k1.tup S1 r.reverse hp⟩⟩
    | ls n =>
      obtain ⟨rfl, hn⟩ := rep_ls r1
      simp only [fRev] at h2
      split at h2
      · rename_i e1
        cases h2
        obtain ⟨vs, q1, r⟩ := S1.lstAt e1
        exact ⟨_, vs, rfl, .inl ⟨.inl (.inl q1), fun p hp => k1.new S1 r.reverse hp⟩⟩
      · cases h2
    | frz ns =>
      obtain ⟨a, rfl, f⟩ := rep_frz r1
      cases h2
      exact ⟨a, _, rfl, .inl ⟨f.sq, fun p hp => k1.new S1 (Reps.ints.reverse) hp⟩⟩
    | _ => cases h2

/-! ### tuple(range(..)), list(range(..)) -/
theorem rgV_eq (a b : Int) : rgV a b = (rngW a 1 (b - a).toNat).map fun w => match w with | .int i => V.int i | _ => V.non := by
  have h : ∀ (n : Nat) (a : Int), (List.range n).map (fun i => V.int (a + (i : Nat))) = (rngW a 1 n).map fun w => match w with | .int i => V.int i | _ => V.non := by
    intro n
    induction n with
    | zero => intro a; rfl
    | succ n ih =>
      intro a
      rw [List.range_succ_eq_map, List.map_cons, List.map_map]
      show _ = V.int a :: (rngW (a + 1) 1 n).map _
      rw [← ih (a + 1)]
      congr 1
      · simp
      · apply List.map_congr_left
        intro i _
        show V.int (a + ((i + 1 : Nat) : Int)) = V.int (a + 1 + (i : Int))
        congr 1
        push_cast
        omega
  exact h _ a
theorem reps_rng {K : PySem.W.Frag} {μ : Nat → Addr} {L : Nat} {H : Hp} : ∀ (n : Nat) (a c : Int), Reps K μ L H ((rngW a c n).map fun w => match w with | .int i => V.int i | _ => V.non) (rngW a c n)
  | 0, _, _ => .nil
  | n + 1, a, c => .cons (.int a) (reps_rng n (a + c) c)
def rgOkB (a b : Int) : Bool := rngOk a && (rngOk b && decide ((b - a).toNat ≤ 1000000))
theorem rgOkB_ok {a b : Int} (h : rgOkB a b = true) : RgOk a b := by
  unfold rgOkB at h
  simp only [Bool.and_eq_true, decide_eq_true_eq] at h
  obtain ⟨h1, h2, h3⟩ := h
  obtain ⟨q1, q2⟩ := rngOk_ok h1
  obtain ⟨q3, q4⟩ := rngOk_ok h2
  exact ⟨q1, q2, q3, q4, by omega⟩
def rngArgs : List W → Option (Int × Int)
  | [.int j] => some (0, j)
  | [.int i, .int j] => some (i, j)
  | _ => none
def eLstRg (n : AX) : EX := fun env st => (n env st).bind fun ws s1 => match rngArgs ws with
  | some (a, b) => if rgOkB a b = true then .ok (.ls s1.length) (s1 ++ [.lst (rngW a 1 (b - a).toNat)]) else .err
  | none => .err
def eTupRg (n : AX) : EX := fun env st => (n env st).bind fun ws s1 => match rngArgs ws with
  | some (a, b) => if rgOkB a b = true then .ok (.tup (rngW a 1 (b - a).toNat)) s1 else .err
  | none => .err
variable {a b c : Expr} {N : List Str} {sc : Scope} {p p2 pos2 : Pos}
theorem cons_args {m : EX} {n : AX} {env : Env'} {st st' : Sto} {ws : List W} (h : aCons m n env st = .ok ws st') : ∃ w s1 us, ws = w :: us ∧ m env st = .ok w s1 ∧ n env s1 = .ok us st' := by
  obtain ⟨x, s1, h1, h2⟩ := R.bind_ok h
  obtain ⟨xs, s2, h3, h4⟩ := R.bind_ok h2
  cases h4
  exact ⟨x, s1, xs, rfl, h1, h3⟩
theorem lstRg_run {m n : EX} {Q : VK} {σ : L2.St} {H : Hp} (h : lE X.K (eLstRg (aCons m (aCons n aNil))) σ H Q) : tLstRg (tRg2 (lE X.K m) (lE X.K n)) σ H Q := by
  obtain ⟨μ, env, st, w, st', S, E, h, k⟩ := h
  obtain ⟨ws, s1, h1, h2⟩ := R.bind_ok h
  obtain ⟨x, s2, us, rfl, h3, h4⟩ := cons_args h1
  obtain ⟨y, s3, us', rfl, h5, h6⟩ := cons_args h4
  cases h6
  refine ⟨μ, env, st, x, s2, S, E, h3, fun μ1 H1 v N1 S1 r1 => ⟨μ1, env, s2, y, _, S1, E.nxt N1, h5, fun μ2 H2 u N2 S2 r2 => ?_⟩⟩
  cases x <;> try cases h2
  cases y <;> try cases h2
  rename_i i j
  cases r1
  cases r2
  simp only [rngArgs] at h2
  split at h2
  · rename_i ok
    cases h2
    exact ⟨i, j, rfl, rfl, rgOkB_ok ok, fun q hq => ((k.mono N1).mono N2).new S2 (by rw [rgV_eq]; exact reps_rng _ _ _) hq⟩
  · cases h2
theorem lstRg_run1 {m : EX} {Q : VK} {σ : L2.St} {H : Hp} (h : lE X.K (eLstRg (aCons m aNil)) σ H Q) : tLstRg (tRg1 (lE X.K m)) σ H Q := by
  obtain ⟨μ, env, st, w, st', S, E, h, k⟩ := h
  obtain ⟨ws, s1, h1, h2⟩ := R.bind_ok h
  obtain ⟨x, s2, us, rfl, h3, h4⟩ := cons_args h1
  cases h4
  refine ⟨μ, env, st, x, _, S, E, h3, fun μ1 H1 v N1 S1 r1 => ?_⟩
  cases x <;> try cases h2
  rename_i j
  cases r1
  simp only [rngArgs] at h2
  split at h2
  · rename_i ok
    cases h2
    exact ⟨j, rfl, rgOkB_ok ok, fun q hq => (k.mono N1).new S1 (by rw [rgV_eq]; exact reps_rng _ _ _) hq⟩
  · cases h2
theorem tupRg_run {m n : EX} {Q : VK} {σ : L2.St} {H : Hp} (h : lE X.K (eTupRg (aCons m (aCons n aNil))) σ H Q) : tTupRg (tRg2 (lE X.K m) (lE X.K n)) σ H Q := by
  obtain ⟨μ, env, st, w, st', S, E, h, k⟩ := h
  obtain ⟨ws, s1, h1, h2⟩ := R.bind_ok h
  obtain ⟨x, s2, us, rfl, h3, h4⟩ := cons_args h1
  obtain ⟨y, s3, us', rfl, h5, h6⟩ := cons_args h4
  cases h6
  refine ⟨μ, env, st, x, s2, S, E, h3, fun μ1 H1 v N1 S1 r1 => ⟨μ1, env, s2, y, _, S1, E.nxt N1, h5, fun μ2 H2 u N2 S2 r2 => ?_⟩⟩
  cases x <;> try cases h2
  cases y <;> try cases h2
  rename_i i j
  cases r1
  cases r2
  simp only [rngArgs] at h2
  split at h2
  · rename_i ok
    cases h2
    exact ⟨i, j, rfl, rfl, rgOkB_ok ok, fun q hq => ((k.mono N1).mono N2).tup S2 (by rw [rgV_eq]; exact reps_rng _ _ _) hq⟩
  · cases h2
theorem tupRg_run1 {m : EX} {Q : VK} {σ : L2.St} {H : Hp} (h : lE X.K (eTupRg (aCons m aNil)) σ H Q) : tTupRg (tRg1 (lE X.K m)) σ H Q := by
  obtain ⟨μ, env, st, w, st', S, E, h, k⟩ := h
  obtain ⟨ws, s1, h1, h2⟩ := R.bind_ok h
  obtain ⟨x, s2, us, rfl, h3, h4⟩ := cons_args h1
  cases h4
  refine ⟨μ, env, st, x, _, S, E, h3, fun μ1 H1 v N1 S1 r1 => ?_⟩
  cases x <;> try cases h2
  rename_i j
  cases r1
  simp only [rngArgs] at h2
  split at h2
  · rename_i ok
    cases h2
    exact ⟨j, rfl, rgOkB_ok ok, fun q hq => (k.mono N1).tup S1 (by rw [rgV_eq]; exact reps_rng _ _ _) hq⟩
  · cases h2
theorem re_listRg1 (hX : In X N sc) {m : EX} (hg : glB sc "list" = true) (hg2 : glB sc "range" = true) (hm : X.mg "list" = none) (hm2 : X.mg "range" = none) (ha : RE X a m)
    (na : starEach [a] X.env = (false, eval a X.env) :: starEach [] X.env := by rfl) (nb : starEach [.Call (.Name "range" p2) [a] [] pos2] X.env = (false, eval (.Call (.Name "range" p2) [a] [] pos2) X.env) :: starEach [] X.env := by rfl) :
    RE X (.Call (.Name "list" p) [.Call (.Name "range" p2) [a] [] pos2] [] pos) (eLstRg (aCons m aNil)) :=
  pe_imp (pe_listRg hX.calm (hX.gl hg) hm (prg_1 (hX.gl hg2) hm2 ha na) nb) fun σ H Q h => lstRg_run1 h
theorem re_listRg2 (hX : In X N sc) {m n : EX} (hg : glB sc "list" = true) (hg2 : glB sc "range" = true) (hm : X.mg "list" = none) (hm2 : X.mg "range" = none) (ha : RE X a m) (hb : RE X b n)
    (na : starEach [a, b] X.env = (false, eval a X.env) :: starEach [b] X.env := by rfl) (nb' : starEach [b] X.env = (false, eval b X.env) :: starEach [] X.env := by rfl) (nb : starEach [.Call (.Name "range" p2) [a, b] [] pos2] X.env = (false, eval (.Call (.Name "range" p2) [a, b] [] pos2) X.env) :: starEach [] X.env := by rfl)
    (hp : (backTo pos2 (starEach [b] X.env)).any (·.1) = false := by rfl) :
    RE X (.Call (.Name "list" p) [.Call (.Name "range" p2) [a, b] [] pos2] [] pos) (eLstRg (aCons m (aCons n aNil))) :=
  pe_imp (pe_listRg hX.calm (hX.gl hg) hm (prg_2 (hX.gl hg2) hm2 ha hb na nb' hp) nb) fun σ H Q h => lstRg_run h
theorem re_tupleRg1 (hX : In X N sc) {m : EX} (hg : glB sc "tuple" = true) (hg2 : glB sc "range" = true) (hm : X.mg "tuple" = none) (hm2 : X.mg "range" = none) (ha : RE X a m)
    (na : starEach [a] X.env = (false, eval a X.env) :: starEach [] X.env := by rfl) (nb : starEach [.Call (.Name "range" p2) [a] [] pos2] X.env = (false, eval (.Call (.Name "range" p2) [a] [] pos2) X.env) :: starEach [] X.env := by rfl) :
    RE X (.Call (.Name "tuple" p) [.Call (.Name "range" p2) [a] [] pos2] [] pos) (eTupRg (aCons m aNil)) :=
  pe_imp (pe_tupRg hX.calm (hX.gl hg) hm (prg_1 (hX.gl hg2) hm2 ha na) nb) fun σ H Q h => tupRg_run1 h
theorem re_tupleRg2 (hX : In X N sc) {m n : EX} (hg : glB sc "tuple" = true) (hg2 : glB sc "range" = true) (hm : X.mg "tuple" = none) (hm2 : X.mg "range" = none) (ha : RE X a m) (hb : RE X b n)
    (na : starEach [a, b] X.env = (false, eval a X.env) :: starEach [b] X.env := by rfl) (nb' : starEach [b] X.env = (false, eval b X.env) :: starEach [] X.env := by rfl) (nb : starEach [.Call (.Name "range" p2) [a, b] [] pos2] X.env = (false, eval (.Call (.Name "range" p2) [a, b] [] pos2) X.env) :: starEach [] X.env := by rfl)
    (hp : (backTo pos2 (starEach [b] X.env)).any (·.1) = false := by rfl) :
    RE X (.Call (.Name "tuple" p) [.Call (.Name "range" p2) [a, b] [] pos2] [] pos) (eTupRg (aCons m (aCons n aNil))) :=
  pe_imp (pe_tupRg hX.calm (hX.gl hg) hm (prg_2 (hX.gl hg2) hm2 ha hb na nb' hp) nb) fun σ H Q h => tupRg_run h
end
end Rx

/-! RxJ: enumerate, zip, comprehensions of two clauses, comprehensions stored at once. -/
namespace Rx
open PySem PySem.Spec PyProof.Rows L2

/-! ### enumerate -/
set_option maxHeartbeats 1000000 in
theorem meets_enum1 {v : Value} {o : Obj} {H : Heap → Prop} (B : Begins v o H) :
    Meets (Builtin.«enumerate.__new__» ⟨[.type "enumerate", v], []⟩) (fun _ R s => H s.heap ∧
      R (.ok (.ret (.ref (s.heap.push o).objs.size))) { s with heap := (s.heap.push o).push { cls := .type "enumerate", data := .fields #[.none, .bool false, .ref s.heap.objs.size, rawInt 0, .none, .none] } }) :=
  .of_wp fun prog w A R s h => by
    obtain ⟨hp, g, d, tk, os⟩ := s
    obtain ⟨h1, h⟩ := h
    have hsub := sub_enumerate
    have q1 : ∀ {A' : Around} {E : Value → Shared → Prop} {Q : Value → Shared → Prop}, Q (.ref hp.objs.size) ⟨hp.push o, g, d, tk, os⟩ → wpAny (model prog w) A' (pyIter v) Q E ⟨hp, g, d, tk, os⟩ :=
      fun q => B.iter prog w _ _ ⟨hp, g, d, tk, os⟩ _ h1 q
    wp_walk using q1
    refine wpAny_stack_any fun st => wpAny_pure ?_
    split
    · rename_i c _ _ _ _ _
      cases (c == Value.type "enumerate")
      · wp_walk using q1
        exact ⟨_, rfl, h⟩
      · wp_walk using q1
        exact ⟨_, rfl, h⟩
    · wp_walk using q1
      exact ⟨_, rfl, h⟩
theorem enum_begins1 {prog : Program} {w : World} {A : Around} {E : Value → Shared → Prop} {s : Shared} {v : Value} {o : Obj} {H : Heap → Prop} {Q : Value → Shared → Prop} (B : Begins v o H) (h1 : H s.heap)
    (h : ∀ h', IsEnum h' (s.heap.objs.size + 1) s.heap.objs.size 0 .none → h'.get? s.heap.objs.size = some o → h'.objs.size = s.heap.objs.size + 2 →
      (∀ b o, s.heap.get? b = some o → h'.get? b = some o) → Q (.ref (s.heap.objs.size + 1)) { s with heap := h' }) :
    wpAny (model prog w) A (call (.type "enumerate") [v]) Q E s := by
  refine callType_new F.called_enumerate (by decide) (F.typeCall_enumerate_1 _) (F.newCall_enumerate_1 _) (fun obj => F.args_object_init_2 obj _) F.entry_enumerate_new
    (meets_enum1 B) ⟨h1, ?_⟩
  have hz : (s.heap.push o).objs.size = s.heap.objs.size + 1 := Heap.size_push ..
  show _ ∧ _
  rw [hz]
  have he : IsEnum ((s.heap.push o).push { cls := .type "enumerate", data := .fields #[.none, .bool false, .ref s.heap.objs.size, rawInt 0, .none, .none] }) (s.heap.objs.size + 1) s.heap.objs.size 0 .none := by
    have := Heap.get?_push_size (s.heap.push o) (o := { cls := .type "enumerate", data := .fields #[.none, .bool false, .ref s.heap.objs.size, rawInt 0, .none, .none] }) rfl
    rw [hz] at this; exact this
  refine ⟨⟨_, he, rfl⟩, h _ he (Heap.get?_push_of_some _ (Heap.get?_push_size _ B.free)) (by rw [Heap.size_push, hz]) fun b o x => Heap.get?_push_of_some _ (Heap.get?_push_of_some _ x)⟩
theorem enumT_end {prog : Program} {w : World} {A : Around} {E : Value → Shared → Prop} {s : Shared} {e it t : Addr} {i : Nat} {items : Array Value} {old : Value} {c : Int} {Q : Option Value → Shared → Prop} (hh : A.handled = none)
    (he : IsEnum s.heap e it c old) (hit : s.heap.IsTupleIter it t i) (ht : s.heap.IsTuple t items) (hx : items[i]? = none)
    (hQ : ∀ h', Heap.ExtBut it s.heap h' → Q none { s with heap := h' }) : wpAny (model prog w) A (pyNext (.ref e)) Q E s := by
  have hT : s.TypeIs (.ref e) "enumerate" := ⟨_, he, rfl⟩
  unfold pyNext
  refine wpAny_bind (wpAny_attempt (wpAny_callSpecial?_slot (name := Str.ofString "__next__") hT F.slot_enumerate_next
    (wpAny_call_entry F.slot_enumerate_next hT F.entry_enumerate_next ?_ (F.args_enumerate_next_1 _))))
  show wpAny _ _ (field (.ref e) 2 >>= _) _ _ _
  refine wpAny_bind (wpAny_field he rfl (x := .ref it) rfl ?_)
  refine wpAny_bind (wpAny_nextOf_tuple_end (A := A.in1) hh hit ht hx fun h' x he' hx' => ?_)
  obtain ⟨o, ho, hc⟩ := hx'
  refine wpAny_bind (wpAny_isInstance (T := "StopIteration") (b := true) ⟨o, ho, hc⟩ isSubtype_stop ?_)
  exact wpAny_pure (hQ _ he')
/-- the tuple at a, each item in a new pair -/
def IteT (K : PySem.W.Frag) (a : Addr) : It :=
  ⟨fun i H => ∃ (xs : List V) (x : V), SqT K H a xs ∧ xs[i]? = some x, fun i H v H' => ∃ T x, v = .ref T ∧ H T = none ∧ H' = upd H T (.tup [.int (i : Nat), x]) ∧ ∀ xs, SqT K H a xs → xs[i]? = some x, fun i H => ∃ xs : List V, SqT K H a xs ∧ xs.length ≤ i⟩
theorem turn_enumT {P : Program} {w : World} {K : PySem.W.Frag} {elts : List Expr} {kk : Nat} {tpos : Pos} (a e it : Addr) (hea : e ≠ a) (hia : a ≠ it) (hei : e ≠ it) :
    Turn P w K (.Tuple elts kk tpos) (IteT K a) [e, it] e (fun i h => (∃ old, IsEnum h e it ((i : Nat) : Int) old) ∧ h.IsTupleIter it a i) where
  mem := by simp
  obj := fun i h st b hb => by
    obtain ⟨⟨old, he⟩, ⟨o, ho, hc, hd⟩⟩ := st
    have e' : b = e ∨ b = it := by simpa using hb
    rcases e' with z | z
    · rw [z]; exact ⟨_, he, fun v q => nomatch q⟩
    · rw [z]; exact ⟨o, ho, fun v q => by rw [hd] at q; cases q⟩
  keep := fun i h h' st k => let ⟨⟨old, he⟩, hi⟩ := st; ⟨⟨old, k e (by simp) _ he⟩, hi.at fun o q => k it (by simp) o q⟩
  item := by
    intro X hP hw hK hc i pins s σ H E I hf st hg
    subst hP hw hK
    obtain ⟨⟨old, he⟩, hit⟩ := st
    obtain ⟨xs, x, hq, hx⟩ := hg
    obtain ⟨its, rv, p, hz⟩ := I.tuple hq
    obtain ⟨u, hu, ru⟩ := rv.get hx
    have hel : e < s.heap.objs.size := Heap.lt_size he
    have hil : it < s.heap.objs.size := by obtain ⟨_, q, _⟩ := hit; exact Heap.lt_size q
    have hlt : i < its.toArray.size := by
      have := (List.getElem?_eq_some_iff.mp hu).1
      simpa using this
    refine wpAny_pyNext_enum_itemC (Draws.tuple (by show X.A.in1.handled = none; exact I.ok.hd hc) it a hia its.toArray) he ⟨hit, (show s.heap.IsTuple a its.toArray from p)⟩ hlt hei (by simp [hei, hea]) fun x' h' tk hPx ho hst hT hsz hk => ?_
    have hux : x' = u := by
      have h1 : its.toArray[i]? = some x' := hPx
      have h2 : its.toArray[i]? = some u := by simpa using hu
      exact Option.some.inj (h1.symm.trans h2)
    subst hux
    obtain ⟨hit', _⟩ := hst
    refine ⟨_, rfl, wpAny_letOwnedTupleGo_enum (s := { s with heap := h', toks := tk + 1 }) ho fun h'' he' sb => ?_⟩
    have hT2 : h''.get? s.heap.objs.size = some { cls := .type "tuple", data := .seq #[.int i tk, x'] } := (sb.2 _ (Nat.ne_of_gt hel)).trans hT
    have new : ObjOk X.prog X.w (upd H s.heap.objs.size (.tup [.int (i : Nat), x])) h'' s.heap.objs.size (.tup [.int (i : Nat), x]) :=
      ⟨by show 2 ≤ sizeLine; decide, [.int i tk, x'], .cons ⟨_, rfl⟩ (.cons ru .nil), ⟨_, hT2, rfl, _, rfl⟩⟩
    have I1 : Inv X pins σ (upd H s.heap.objs.size (.tup [.int (i : Nat), x])) { s with heap := h'', toks := tk + 1 } :=
      I.turnedNew (ch := [e, it]) (fun b ob hb q => (sb.2 b (fun z => hb (by simp [z]))).trans (hk b ob (fun z => hb (by simp [z])) (fun z => hb (by simp [z])) q)) hf (Nat.le_refl _) new
    refine ⟨.ref s.heap.objs.size, _, I1, rfl, ⟨_, x, rfl, I.hok.fresh (Nat.le_refl _), rfl, fun ys hy => by rw [I.tuple_inj hy hq]; exact hx⟩, ⟨⟨x', ?_⟩, hit'.at fun o q => (sb.2 it (Ne.symm hei)).trans q⟩, fun b hb => ?_⟩
    · have e1 : ((i + 1 : Nat) : Int) = (i : Int) + 1 := by omega
      rw [e1]; exact he'
    · have hb' : b < s.heap.objs.size := by
        have e' : b = e ∨ b = it := by simpa using hb
        rcases e' with z | z
        · rw [z]; exact hel
        · rw [z]; exact hil
      rw [upd_ne (Nat.ne_of_lt hb')]
      exact (hf b hb).1
  done := by
    intro X hP hw hK hc i pins s σ H E I hf st hg
    subst hP hw hK
    obtain ⟨⟨old, he⟩, hit⟩ := st
    obtain ⟨xs, hq, hx⟩ := hg
    obtain ⟨its, rv, p, hz⟩ := I.tuple hq
    obtain ⟨f0, f1, f2, f3, f4, f5⟩ := hf it (by simp)
    have hl := rv.length
    have hT : s.TypeIs (.ref e) "enumerate" := ⟨_, he, rfl⟩
    refine enumT_end (I.ok.hd hc) he hit (show s.heap.IsTuple a its.toArray from p) (by simp; omega) fun h' eb => ⟨rfl, I.turned (t' := s.toks) (fun b o hb q => eb b o hb q) f0 f1 f3 f4 f5⟩
  self := fun A i s Q E st h => let ⟨⟨_, he⟩, _⟩ := st; wpAny_pyIter_enum he h

def iEnumA (K : PySem.W.Frag) (ta : TA) : TI := fun σ H R => ta σ H fun vs H1 => ∃ a, vs = [.ref a] ∧ ((∃ xs, SqL K H1 a xs ∧ R (Ite K a) H1) ∨ (∃ xs, SqT K H1 a xs ∧ R (IteT K a) H1))
theorem pi_enumA {X : Cx} {e : Expr} {ta : TA} {p pos tpos : Pos} {elts : List Expr} {kk : Nat} (hg : Gl X "enumerate") (hm : X.mg "enumerate" = none) (ha : PA X [e] ta) (hs : starEach [e] X.env = [(false, eval e X.env)] := by rfl) :
    PI X (.Tuple elts kk tpos) (.Call (.Name "enumerate" p) [e] [] pos) (iEnumA X.K ta) := by
  refine ⟨fun pins s σ H R I h => ?_⟩
  refine Call_ (ld_blt I hg hm boot_enumerate (PyProof.Rows.callWith_type1 (thn (ha.run pos pins s σ H _ I h) fun us s1 ⟨vs, H1, I1, r1, q1⟩ => ?_) hs rfl))
  obtain ⟨a, ex, q⟩ := q1
  subst ex
  cases r1 with
  | cons r rr =>
    cases rr
    cases r
    have fresh : ∀ b, b ∈ [s1.heap.objs.size + 1, s1.heap.objs.size] → FpOk X pins H1 b := fun b hb => by
      have e' : b = s1.heap.objs.size + 1 ∨ b = s1.heap.objs.size := by simpa using hb
      have hle : s1.heap.objs.size ≤ b := by
        rcases e' with z | z
        · rw [z]; exact Nat.le_add_right _ _
        · rw [z]; exact Nat.le_refl _
      exact I1.fpOk hle (I1.hok.fresh hle)
    rcases q with ⟨xs, hq, q⟩ | ⟨xs, hq, q⟩
    · obtain ⟨its, rv, p', hz⟩ := I1.list hq
      refine call_enumerate_list p'.isList fun h' he hit hsz hk => wpAny_pyIter_enum he ?_
      have I2 : Inv X pins σ H1 { s1 with heap := h' } := I1.kept (t' := s1.toks) hk
      exact ⟨s1.heap.objs.size + 1, [s1.heap.objs.size + 1, s1.heap.objs.size], _, _, H1, rfl, I2, turn_enum a (s1.heap.objs.size + 1) s1.heap.objs.size, ⟨⟨.none, he⟩, hit, Nat.succ_ne_self _⟩, fresh, q⟩
    · obtain ⟨its, rv, p', hz⟩ := I1.tuple hq
      have ha' : a < s1.heap.objs.size := by obtain ⟨o, ho, _⟩ := id p'; exact Heap.lt_size ho
      refine enum_begins1 (begins_tuple a its.toArray) (show s1.heap.IsTuple a its.toArray from p') fun h' he hit hsz hk => wpAny_pyIter_enum he ?_
      have I2 : Inv X pins σ H1 { s1 with heap := h' } := I1.kept (t' := s1.toks) hk
      exact ⟨s1.heap.objs.size + 1, [s1.heap.objs.size + 1, s1.heap.objs.size], _, _, H1, rfl, I2, turn_enumT a (s1.heap.objs.size + 1) s1.heap.objs.size (Ne.symm (Nat.ne_of_lt (Nat.lt_succ_of_lt ha'))) (Nat.ne_of_lt ha') (Nat.succ_ne_self _), ⟨⟨.none, he⟩, ⟨_, hit, rfl, rfl⟩⟩, fresh, q⟩
def enumW (i : Nat) : List W → List W
  | [] => []
  | x :: xs => .tup [.int (i : Nat), x] :: enumW (i + 1) xs
theorem enumW_get : ∀ (xs : List W) (i j : Nat), (enumW i xs)[j]? = (xs[j]?).map fun x => .tup [.int ((i + j : Nat) : Int), x]
  | [], _, _ => by simp [enumW]
  | x :: xs, i, 0 => by simp [enumW]
  | x :: xs, i, j + 1 => by
    simp only [enumW, List.getElem?_cons_succ]
    rw [enumW_get xs (i + 1) j]
    have : i + 1 + j = i + (j + 1) := by omega
    rw [this]
def iEnum (m : EX) : IX := fun env st => (m env st).bind fun x s1 => match x with
  | .tup xs => .ok (.fix (enumW 0 xs)) s1
  | .ls n => .ok (.en n) s1
  | .frz ns => .ok (.fix (enumW 0 (ns.map W.int))) s1
  | _ => .err
section
variable {K : PySem.W.Frag} {μ : Nat → Addr} {st : Sto} {H : Hp}
theorem yl_pair {μ' : Nat → Addr} {st' : Sto} {H' : Hp} {T : Addr} {x y : V} {w u : W} (S : Sim K μ' st' H') (r : Rep K μ' st'.length H' x w) (r' : Rep K μ' st'.length H' y u) (hT : H' T = none) :
    Nxt K μ' st'.length H' μ' st'.length (upd H' T (.tup [x, y])) ∧ Sim K μ' st' (upd H' T (.tup [x, y])) ∧ Rep K μ' st'.length (upd H' T (.tup [x, y])) (.ref T) (.tup [w, u]) :=
  ⟨Nxt.tup hT, S.tup hT, .tup (.inl upd_same) (.cons (r.nxt (Nxt.tup hT)) (.cons (r'.nxt (Nxt.tup hT)) .nil))⟩
theorem src_enT {a : Addr} {vs : List V} {ws : List W} (t : Tp K H a vs) (r : Reps K μ st.length H vs ws) : SrcOk K (IteT K a) (.fix (enumW 0 ws)) μ st.length H := fun μ' st' H' N S i => by
  have t' := (N.tp _ _ t).sq
  have r' := r.nxw N
  show match (enumW 0 ws)[i]? with
    | none => (IteT K a).stop i H'
    | some w => _
  rw [enumW_get]
  cases e : ws[i]? with
  | none => exact ⟨vs, t', by rw [r.length]; exact List.getElem?_eq_none_iff.mp e⟩
  | some w =>
    obtain ⟨v, h1, h2⟩ := r'.get e
    refine ⟨⟨vs, v, t', h1⟩, fun x H'' y => ?_⟩
    obtain ⟨T, x', rfl, hT, rfl, y⟩ := y
    have : x' = v := Option.some.inj ((y vs t').symm.trans h1)
    subst this
    have e0 : ((0 + i : Nat) : Int) = (i : Int) := by rw [Nat.zero_add]
    rw [e0]
    exact yl_pair S (.int _) h2 hT
theorem src_enL {a : Addr} {ns : List Int} (t : Fz K H a ns) : SrcOk K (Ite K a) (.fix (enumW 0 (ns.map W.int))) μ st.length H := fun μ' st' H' N S i => by
  have t' := (N.fz _ _ t).sq
  have r' : Reps K μ' st'.length H' (ns.map V.int) (ns.map W.int) := Reps.ints
  show match (enumW 0 (ns.map W.int))[i]? with
    | none => (Ite K a).stop i H'
    | some w => _
  rw [enumW_get]
  cases e : (ns.map W.int)[i]? with
  | none => exact ⟨_, t', by have := List.getElem?_eq_none_iff.mp e; simpa using this⟩
  | some w =>
    obtain ⟨v, h1, h2⟩ := r'.get e
    refine ⟨⟨_, v, t', h1⟩, fun x H'' y => ?_⟩
    obtain ⟨T, x', rfl, hT, rfl, y⟩ := y
    have : x' = v := Option.some.inj ((y _ t').symm.trans h1)
    subst this
    have e0 : ((0 + i : Nat) : Int) = (i : Int) := by rw [Nat.zero_add]
    rw [e0]
    exact yl_pair S (.int _) h2 hT
theorem ls_at {n : Nat} (hn : n < st.length) (S : Sim K μ st H) : ∃ xs vs, st[n]? = some (.lst xs) ∧ H (μ n) = some (.lst vs) ∧ Reps K μ st.length H vs xs := by
  have e1 : st[n]? = some st[n] := by simp [hn]
  obtain ⟨xs, ex⟩ : ∃ xs, st[n] = .lst xs := by
    cases st[n] with
    | lst xs => exact ⟨xs, rfl⟩
  rw [ex] at e1
  obtain ⟨vs, h1, r⟩ := S.lstAt e1
  exact ⟨xs, vs, e1, h1, r⟩
theorem src_en {n : Nat} (hn : n < st.length) : SrcOk K (Ite K (μ n)) (.en n) μ st.length H := fun μ' st' H' N S i => by
  have hn' : n < st'.length := Nat.lt_of_lt_of_le hn N.le
  obtain ⟨xs, vs, e1, h1, r⟩ := ls_at hn' S
  rw [N.mu n hn] at h1
  have t' : SqL K H' (μ n) vs := .inl (.inl h1)
  have e2 : lsAt st' n i = xs[i]? := by unfold lsAt; rw [e1]
  unfold Src.at
  simp only [e2]
  cases e : xs[i]? with
  | none => exact ⟨vs, t', by rw [r.length]; exact List.getElem?_eq_none_iff.mp e⟩
  | some w =>
    obtain ⟨v, h2, h3⟩ := r.get e
    refine ⟨⟨vs, v, t', h2⟩, fun x H'' y => ?_⟩
    obtain ⟨T, x', rfl, hT, rfl, y⟩ := y
    have : x' = v := Option.some.inj ((y vs t').symm.trans h2)
    subst this
    exact yl_pair S (.int _) h3 hT
theorem ri_enum {X : Cx} {N : List Str} {sc : Scope} (hX : In X N sc) {m : EX} {e : Expr} {p pos tpos : Pos} {elts : List Expr} {kk : Nat} (hg : glB sc "enumerate" = true) (hm : X.mg "enumerate" = none) (ha : RE X e m) (hs : Pl e := by exact fun _ _ => rfl) :
    RI X (.Tuple elts kk tpos) (.Call (.Name "enumerate" p) [e] [] pos) (iEnum m) := pi_imp (pi_enumA (hX.gl hg) hm (ra_cons ha ra_nil hs) (hs [] X.env)) fun σ H R0 ⟨μ, env, st, src, st', S, E, h, k⟩ => by
  obtain ⟨x, s1, h1, h2⟩ := R.bind_ok h
  have hA : aCons m aNil env st = .ok [x] s1 := by
    unfold aCons
    rw [h1]
    rfl
  refine ⟨μ, env, st, _, s1, S, E, hA, fun μ1 H1 vs N1 S1 r1 => ?_⟩
  match vs, r1 with
  | [v], .cons r1 .nil =>
    cases x with
    | tup xs =>
      cases h2
      obtain ⟨a, vs, rfl, t, r⟩ := rep_tup r1
      exact ⟨a, rfl, .inr ⟨vs, t.sq, k _ _ _ N1 S1 (src_enT t r)⟩⟩
    | ls n =>
      cases h2
      obtain ⟨rfl, hn⟩ := rep_ls r1
      obtain ⟨xs, q⟩ := S1.isL hn
      exact ⟨_, rfl, .inl ⟨xs, .inl (.inl q), k _ _ _ N1 S1 (src_en hn)⟩⟩
    | frz ns =>
      cases h2
      obtain ⟨a, rfl, f⟩ := rep_frz r1
      exact ⟨a, rfl, .inl ⟨_, f.sq, k _ _ _ N1 S1 (src_enL f)⟩⟩
    | _ => cases h2
/-! ### zip -/
def zipW : List W → List W → List W
  | x :: xs, y :: ys => .tup [x, y] :: zipW xs ys
  | _, _ => []
theorem zipW_get : ∀ (xs ys : List W) (i : Nat), (zipW xs ys)[i]? = match xs[i]?, ys[i]? with
    | some x, some y => some (.tup [x, y])
    | _, _ => none
  | [], _, _ => by simp [zipW]
  | x :: xs, [], i => by
    simp only [zipW, List.getElem?_nil]
    split
    · rename_i h; cases h
    · rfl
  | x :: xs, y :: ys, 0 => by simp [zipW]
  | x :: xs, y :: ys, i + 1 => by
    simp only [zipW, List.getElem?_cons_succ]
    exact zipW_get xs ys i
def iZip (m n : EX) : IX := fun env st => (m env st).bind fun x s1 => (n env s1).bind fun y s2 => match x, y with
  | .tup xs, .tup ys => .ok (.fix (zipW xs ys)) s2
  | .ls a, .ls b => .ok (.zp a b) s2
  | _, _ => .err
theorem src_zpT {a b : Addr} {vs us : List V} {ws zs : List W} (t : Tp K H a vs) (t2 : Tp K H b us) (r : Reps K μ st.length H vs ws) (r2 : Reps K μ st.length H us zs) : SrcOk K (RZ.ItzT K a b) (.fix (zipW ws zs)) μ st.length H := fun μ' st' H' N S i => by
  have t' := (N.tp _ _ t).sq
  have t2' := (N.tp _ _ t2).sq
  have r' := r.nxw N
  have r2' := r2.nxw N
  show match (zipW ws zs)[i]? with
    | none => (RZ.ItzT K a b).stop i H'
    | some w => _
  rw [zipW_get]
  cases e : ws[i]? with
  | none => exact ⟨vs, us, t', t2', .inl (by rw [r.length]; exact List.getElem?_eq_none_iff.mp e)⟩
  | some w =>
    cases e2 : zs[i]? with
    | none => exact ⟨vs, us, t', t2', .inr (by rw [r2.length]; exact List.getElem?_eq_none_iff.mp e2)⟩
    | some u =>
      obtain ⟨v, h1, h2⟩ := r'.get e
      obtain ⟨v2, h3, h4⟩ := r2'.get e2
      refine ⟨⟨vs, us, v, v2, t', t2', h1, h3⟩, fun x H'' y => ?_⟩
      obtain ⟨T, x', y', rfl, hT, rfl, q1, q2⟩ := y
      have : x' = v := Option.some.inj ((q1 vs t').symm.trans h1)
      subst this
      have : y' = v2 := Option.some.inj ((q2 us t2').symm.trans h3)
      subst this
      exact yl_pair S h2 h4 hT
theorem src_zp {a b : Nat} (ha : a < st.length) (hb : b < st.length) : SrcOk K (Itz K (μ a) (μ b)) (.zp a b) μ st.length H := fun μ' st' H' N S i => by
  obtain ⟨xs, vs, e1, h1, r⟩ := ls_at (Nat.lt_of_lt_of_le ha N.le) S
  obtain ⟨ys, us, e2, h2, r2⟩ := ls_at (Nat.lt_of_lt_of_le hb N.le) S
  rw [N.mu a ha] at h1
  rw [N.mu b hb] at h2
  have t' : SqL K H' (μ a) vs := .inl (.inl h1)
  have t2' : SqL K H' (μ b) us := .inl (.inl h2)
  have q1 : lsAt st' a i = xs[i]? := by unfold lsAt; rw [e1]
  have q2 : lsAt st' b i = ys[i]? := by unfold lsAt; rw [e2]
  unfold Src.at
  simp only [q1, q2]
  cases e : xs[i]? with
  | none => exact ⟨vs, us, t', t2', .inl (by rw [r.length]; exact List.getElem?_eq_none_iff.mp e)⟩
  | some w =>
    cases e2 : ys[i]? with
    | none => exact ⟨vs, us, t', t2', .inr (by rw [r2.length]; exact List.getElem?_eq_none_iff.mp e2)⟩
    | some u =>
      obtain ⟨v, g1, g2⟩ := r.get e
      obtain ⟨v2, g3, g4⟩ := r2.get e2
      refine ⟨⟨vs, us, v, v2, t', t2', g1, g3⟩, fun x H'' y => ?_⟩
      obtain ⟨T, x', y', rfl, hT, rfl, z1, z2⟩ := y
      have : x' = v := Option.some.inj ((z1 vs t').symm.trans g1)
      subst this
      have : y' = v2 := Option.some.inj ((z2 us t2').symm.trans g3)
      subst this
      exact yl_pair S g2 g4 hT
theorem ri_zip {X : Cx} {N : List Str} {sc : Scope} (hX : In X N sc) {m n : EX} {e e2 : Expr} {p pos tpos : Pos} {elts : List Expr} {kk : Nat} (hg : glB sc "zip" = true) (hm : X.mg "zip" = none) (ha : RE X e m) (hb : RE X e2 n) (hs : Pl e := by exact fun _ _ => rfl) (hs2 : Pl e2 := by exact fun _ _ => rfl) :
    RI X (.Tuple elts kk tpos) (.Call (.Name "zip" p) [e, e2] [] pos) (iZip m n) := pi_imp (RZ.pi_zipA (hX.gl hg) hm (ra_cons ha (ra_cons hb ra_nil hs2) hs) (hs [e2] X.env) (by rw [hs2 [] X.env]; rfl)) fun σ H R0 ⟨μ, env, st, src, st', S, E, h, k⟩ => by
  obtain ⟨x, s1, h1, h2⟩ := R.bind_ok h
  obtain ⟨y, s2, h3, h4⟩ := R.bind_ok h2
  have hA : aCons m (aCons n aNil) env st = .ok [x, y] s2 := by
    unfold aCons
    rw [h1]
    show R.bind (R.bind (n env s1) _) _ = _
    rw [h3]
    rfl
  refine ⟨μ, env, st, _, s2, S, E, hA, fun μ1 H1 vs N1 S1 r1 => ?_⟩
  match vs, r1 with
  | [v, u], .cons ra (.cons rb .nil) =>
    clear r1
    cases x with
    | tup xs =>
      cases y with
      | tup ys =>
        cases h4
        obtain ⟨a, vs, rfl, t, r⟩ := rep_tup ra
        obtain ⟨b, us, rfl, t2, r'⟩ := rep_tup rb
        exact ⟨a, b, vs, us, rfl, .inr ⟨t.sq, t2.sq, k _ _ _ N1 S1 (src_zpT t t2 r r')⟩⟩
      | _ => cases h4
    | ls a =>
      cases y with
      | ls b =>
        cases h4
        obtain ⟨rfl, la⟩ := rep_ls ra
        obtain ⟨rfl, lb⟩ := rep_ls rb
        obtain ⟨xs, q⟩ := S1.isL la
        obtain ⟨ys, q2⟩ := S1.isL lb
        exact ⟨_, _, xs, ys, rfl, .inl ⟨.inl (.inl q), .inl (.inl q2), k _ _ _ N1 S1 (src_zp la lb)⟩⟩
      | _ => cases h4
    | _ => cases h4
end

/-! ### comprehensions of two clauses -/
def compM2 (src : Src) (p : Pat) (t : TX) (it1 : IX) (p1 : Pat) (t1 : TX) (m : EX) (env : Env') : Nat → Nat → Sto → R (List W)
  | 0, _, _ => .err
  | n + 1, i, st => match src.at i st with
    | none => .ok [] st
    | some x => match p.set x st env with
      | none => .err
      | some e1 => match t e1 st with
        | .err => .err
        | .ok false s => compM2 src p t it1 p1 t1 m env n (i + 1) s
        | .ok true s => match it1 e1 s with
          | .err => .err
          | .ok src1 s2 => match compM src1 p1 t1 m (wipeE e1 p1.slots) (src1.bound s2) 0 s2 with
            | .err => .err
            | .ok ys s3 => match compM2 src p t it1 p1 t1 m env n (i + 1) s3 with
              | .err => .err
              | .ok zs s4 => .ok (ys ++ zs) s4
def eComp2 (it : IX) (p : Pat) (t : TX) (it1 : IX) (p1 : Pat) (t1 : TX) (m : EX) (vs : List Nat) : EX := fun env st => (it env st).bind fun src s1 => (compM2 src p t it1 p1 t1 m (wipeE env vs) (src.bound s1) 0 s1).bind fun ys s2 =>
  if ys.length ≤ 1000000 then .ok (.ls s2.length) (s2 ++ [.lst ys]) else .err
section
variable {X : Cx} {e a b c tg tg1 elt iter iter1 : Expr} {pos : Pos} {ifs ifs1 : List Expr} {scope : Scope} {own : List (Str × Nat)}
theorem comp2_run {it it1 : IX} {p p1 : Pat} {t t1 : TX} {m : EX} {σ : L2.St} {H : Hp} {Q : VK} {vs : List Nat} (hp : (p.slots.all fun i => decide (i ∈ vs)) = true) (h : lE X.K (eComp2 it p t it1 p1 t1 m vs) σ H Q) :
    tLc2 (lI X.K it) (gPat X.K p) (lT X.K t) (lI X.K it1) (gPat X.K p1) (lT X.K t1) (lE X.K m) vs p1.slots σ H Q := by
  obtain ⟨μ, env, st, w, st', S, E, h, k⟩ := h
  obtain ⟨src, s1, h1, h2⟩ := R.bind_ok h
  obtain ⟨ys, s2, h3, h4⟩ := R.bind_ok h2
  split at h4
  rotate_left
  · cases h4
  rename_i hz
  cases h4
  refine ⟨μ, env, st, src, s1, S, E, h1, fun J μ1 H1 N1 S1 so D hD => ?_⟩
  refine ⟨fun i m0 H => ∃ μ st rest, CSt X.K μ1 s1.length H1 D ys J src (wipeE env vs) (L2.wipe σ vs) μ st H rest ∧ compM2 src p t it1 p1 t1 m (wipeE env vs) m0 i st = .ok rest s2,
    ⟨_, μ1, s1, ys, CSt.start S1 ((E.nxt N1).wipe vs) so hD, h3⟩, ?_⟩
  rintro i m0 H2 ⟨μ2, st2, rest, c, g⟩
  cases m0 with
  | zero => cases g
  | succ m0 =>
    have q := c.so μ2 st2 H2 Nxt.refl.w c.S i
    unfold compM2 at g
    split at g
    · rename_i hn
      rw [hn] at q
      cases g
      exact .inl ⟨q, c.fin N1 hD k⟩
    · rename_i x hx
      rw [hx] at q
      obtain ⟨go, yl⟩ := q
      split at g
      · cases g
      · rename_i e1 he1
        refine .inr ⟨go, fun H => ∃ μ st rest, CSt X.K μ1 s1.length H1 D ys J src (wipeE env vs) (L2.wipe σ vs) μ st H rest ∧ compM2 src p t it1 p1 t1 m (wipeE env vs) m0 (i + 1) st = .ok rest s2, fun H' hN => ⟨m0, Nat.lt_succ_self _, hN⟩, fun xv H3 y => ?_⟩
        obtain ⟨N3, S3, r3⟩ := yl xv H3 y
        have c3 := c.step N3 S3
        refine gPat_run (vs0 := vs) S3 c3.E r3 he1 fun σ4 E4 hw => ⟨by rw [hw (nmem_of hp), wipe_wipe], ?_⟩
        cases et : t e1 st2 with
        | err => rw [et] at g; cases g
        | ok bb s5 =>
          rw [et] at g
          refine ⟨μ2, e1, st2, bb, s5, S3, E4, et, fun μ5 H5 N5 S5 => ?_⟩
          have c5 := c3.step N5 S5
          cases bb with
          | false =>
            simp only [Bool.false_eq_true, if_false]
            exact ⟨μ5, s5, rest, c5, g⟩
          | true =>
            simp only [if_true]
            cases ei : it1 e1 s5 with
            | err => simp only [ei] at g; cases g
            | ok src1 s6 =>
              simp only [ei] at g
              cases ec : compM src1 p1 t1 m (wipeE e1 p1.slots) (src1.bound s6) 0 s6 with
              | err => simp only [ec] at g; cases g
              | ok ins s7 =>
                simp only [ec] at g
                cases eo : compM2 src p t it1 p1 t1 m (wipeE env vs) m0 (i + 1) s7 with
                | err => simp only [eo] at g; cases g
                | ok zs s8 =>
                  simp only [eo] at g
                  cases g
                  refine ⟨μ5, e1, s5, src1, s6, S5, E4.nxt N5, ei, fun J1 μ6 H6 N6 S6 so1 => ?_⟩
                  have c6 := c5.step N6 S6
                  have E6 : EnvR X.K μ6 s6.length H6 (wipeE e1 p1.slots) (L2.wipe σ4 p1.slots) := ((E4.nxt N5).nxt N6).wipe _
                  refine ⟨fun j k0 H => ∃ μ st rin, CSt X.K μ1 s1.length H1 D ys J src (wipeE env vs) (L2.wipe σ vs) μ st H (rin ++ zs) ∧ EnvR X.K μ st.length H (wipeE e1 p1.slots) (L2.wipe σ4 p1.slots) ∧ SrcOk X.K J1 src1 μ st.length H ∧ compM src1 p1 t1 m (wipeE e1 p1.slots) k0 j st = .ok rin s7,
                    ⟨_, μ6, s6, ins, c6, E6, so1, ec⟩, ?_⟩
                  rintro j k0 H7 ⟨μ7, st7, rin, c7, E7, so7, g7⟩
                  cases k0 with
                  | zero => cases g7
                  | succ k0 =>
                    have q7 := so7 μ7 st7 H7 Nxt.refl.w c7.S j
                    unfold compM at g7
                    split at g7
                    · rename_i hn7
                      rw [hn7] at q7
                      cases g7
                      exact .inl ⟨q7, μ7, _, zs, c7, eo⟩
                    · rename_i x7 hx7
                      rw [hx7] at q7
                      obtain ⟨go7, yl7⟩ := q7
                      split at g7
                      · cases g7
                      · rename_i e8 he8
                        refine .inr ⟨go7, fun H => ∃ μ st rin, CSt X.K μ1 s1.length H1 D ys J src (wipeE env vs) (L2.wipe σ vs) μ st H (rin ++ zs) ∧ EnvR X.K μ st.length H (wipeE e1 p1.slots) (L2.wipe σ4 p1.slots) ∧ SrcOk X.K J1 src1 μ st.length H ∧ compM src1 p1 t1 m (wipeE e1 p1.slots) k0 (j + 1) st = .ok rin s7, fun H' hN => ⟨k0, Nat.lt_succ_self _, hN⟩, fun xv8 H8 y8 => ?_⟩
                        obtain ⟨N8, S8, r8⟩ := yl7 xv8 H8 y8
                        have c8 := c7.step N8 S8
                        have E8 := E7.nxt N8
                        have so8 := so7.mono N8.w
                        refine gPat_run (vs0 := p1.slots) S8 E8 r8 he8 fun σ9 E9 hw9 => ⟨by rw [hw9 (fun i hi => hi), wipe_wipe], ?_⟩
                        cases et9 : t1 e8 st7 with
                        | err => rw [et9] at g7; cases g7
                        | ok b9 s9 =>
                          rw [et9] at g7
                          refine ⟨μ7, e8, st7, b9, s9, S8, E9, et9, fun μ10 H10 N10 S10 => ?_⟩
                          have c10 := c8.step N10 S10
                          have E10 := E8.nxt N10
                          have so10 := so8.mono N10.w
                          cases b9 with
                          | false =>
                            simp only [Bool.false_eq_true, if_false]
                            exact ⟨μ10, s9, rin, c10, E10, so10, g7⟩
                          | true =>
                            simp only [if_true]
                            cases em : m e8 s9 with
                            | err => simp only [em] at g7; cases g7
                            | ok y s11 =>
                              simp only [em] at g7
                              cases er : compM src1 p1 t1 m (wipeE e1 p1.slots) k0 (j + 1) s11 with
                              | err => simp only [er] at g7; cases g7
                              | ok ys' s12 =>
                                simp only [er] at g7
                                cases g7
                                refine ⟨μ10, e8, s9, y, s11, S10, E9.nxt N10, em, fun μ11 H11 yv N11 S11 r11 => ?_⟩
                                have c11 := c10.step N11 S11
                                obtain ⟨us, d11, hz11, c12⟩ := c11.app (rest := ys' ++ zs) r11 hz
                                have P : NxtD D X.K μ11 s11.length H11 μ11 s11.length (upd H11 D (.lst (us ++ [yv]))) := NxtD.put d11
                                exact ⟨us, d11, hz11, μ11, s11, ys', c12, (E10.nxt N11).nxw P.w, (so10.mono N11.w).mono P.w, er⟩
theorem re_comp2 {N : List Str} {sc : Scope} (hX : In X N sc) {it it1 : IX} {p p1 : Pat} {t t1 : TX} {m : EX} (hi : RI X tg iter it) (ok : blkC N sc scope own = true) (hp : (p.slots.all fun i => decide (i ∈ own.map (·.2))) = true) (hv : (p1.slots.all fun i => decide (i ∈ own.map (·.2))) = true)
    (hg : ∀ (s : Shared) (H : Hp) (C : Addr) (cl : List (Str × Addr)) (fp : List Addr), RG (X.blk s H scope (compEnvC scope cl C X.env) fp) tg p) (ht : ∀ (s : Shared) (H : Hp) (C : Addr) (cl : List (Str × Addr)) (fp : List Addr), RTs (X.blk s H scope (compEnvC scope cl C X.env) fp) ifs t)
    (hi1 : ∀ (s : Shared) (H : Hp) (C : Addr) (cl : List (Str × Addr)) (fp : List Addr), RI (X.blk s H scope (compEnvC scope cl C X.env) fp) tg1 iter1 it1)
    (hg1 : ∀ (s : Shared) (H : Hp) (C : Addr) (cl : List (Str × Addr)) (fp : List Addr), RG (X.blk s H scope (compEnvC scope cl C X.env) fp) tg1 p1) (ht1 : ∀ (s : Shared) (H : Hp) (C : Addr) (cl : List (Str × Addr)) (fp : List Addr), RTs (X.blk s H scope (compEnvC scope cl C X.env) fp) ifs1 t1)
    (he : ∀ (s : Shared) (H : Hp) (C : Addr) (cl : List (Str × Addr)) (fp : List Addr), RE (X.blk s H scope (compEnvC scope cl C X.env) fp) elt m) (hs : ∀ x, foldedSetIterable iter X.env x = pure x := by intro _; rfl) (hs1 : ∀ env x, foldedSetIterable iter1 env x = pure x := by intro _ _; rfl) :
    RE X (.ListComp elt [⟨tg, iter, ifs, 0⟩, ⟨tg1, iter1, ifs1, 0⟩] scope pos) (eComp2 it p t it1 p1 t1 m (own.map (·.2))) :=
  pe_imp (pe_lc2 hX.calm (by rw [hX.n]; exact hX.nd) hi (blk_ok hX ok) (nmem_of hv) hg ht hi1 hg1 ht1 he hs hs1) fun σ H Q h => comp2_run hp h
/-- a value's reading, on a store of its own -/
theorem fr_run {vs : List Nat} {m : EX} {σ : L2.St} {H : Hp} {Q : VK} (h : lE X.K (frE vs m) σ H Q) : lE X.K m σ H Q := by
  obtain ⟨μ, env, st, w, st', S, E, h, k⟩ := h
  unfold frE at h
  split at h
  · rename_i hl
    obtain ⟨w0, s0, h1, k1⟩ := KE.pure S h k
    exact ⟨μ, _, [], w0, s0, Sim.nil, E.pick hl, h1, k1⟩
  · exact ⟨μ, env, st, w, st', S, E, h, k⟩
/-- name = [..] on one line, the name local -/
theorem rs_setC {N : List Str} {sc : Scope} (hX : In X N sc) {i : Nat} {y : Str} {py : Pos} {spos : Pos} {it : IX} {p : Pat} {t : TX} {m : EX} (vs : List Nat) (hy : ixOk N i y = true) (hyl : locB sc y = true)
    (hsw : ∀ env : Env, env.scope = sc → swapsWith (.ListComp elt [⟨tg, iter, ifs, 0⟩] scope pos) (some (.Name y py)) spos.line env = pure true) (hi : RI X tg iter it) (ok : blkC N sc scope own = true) (hp : (p.slots.all fun i => decide (i ∈ own.map (·.2))) = true)
    (hg : ∀ (s : Shared) (H : Hp) (C : Addr) (cl : List (Str × Addr)) (fp : List Addr), RG (X.blk s H scope (compEnvC scope cl C X.env) fp) tg p) (ht : ∀ (s : Shared) (H : Hp) (C : Addr) (cl : List (Str × Addr)) (fp : List Addr), RTs (X.blk s H scope (compEnvC scope cl C X.env) fp) ifs t)
    (he : ∀ (s : Shared) (H : Hp) (C : Addr) (cl : List (Str × Addr)) (fp : List Addr), RE (X.blk s H scope (compEnvC scope cl C X.env) fp) elt m) (hs : ∀ x, foldedSetIterable iter X.env x = pure x := by intro _; rfl) :
    RS X (.Assign [.Name y py] (.ListComp elt [⟨tg, iter, ifs, 0⟩] scope pos) spos) (sPat (.nm i) (frE vs (eComp it p t m (own.map (·.2))))) :=
  ps_imp (ps_setLc (i := i) hX.calm (by rw [hX.n]; exact hX.nd) (by rw [hX.n]; exact of_decide_eq_true hy) (locB_ok hX hyl) (hsw X.env hX.s) hi (blk_ok hX ok) hg ht he hs) fun D σ H h => comp_run hp (fr_run (asg_run h))
theorem rs_setC2 {N : List Str} {sc : Scope} (hX : In X N sc) {i : Nat} {y : Str} {py : Pos} {spos : Pos} {it it1 : IX} {p p1 : Pat} {t t1 : TX} {m : EX} (vs : List Nat) (hy : ixOk N i y = true) (hyl : locB sc y = true)
    (hsw : ∀ env : Env, env.scope = sc → swapsWith (.ListComp elt [⟨tg, iter, ifs, 0⟩, ⟨tg1, iter1, ifs1, 0⟩] scope pos) (some (.Name y py)) spos.line env = pure true) (hi : RI X tg iter it) (ok : blkC N sc scope own = true) (hp : (p.slots.all fun i => decide (i ∈ own.map (·.2))) = true) (hv : (p1.slots.all fun i => decide (i ∈ own.map (·.2))) = true)
    (hg : ∀ (s : Shared) (H : Hp) (C : Addr) (cl : List (Str × Addr)) (fp : List Addr), RG (X.blk s H scope (compEnvC scope cl C X.env) fp) tg p) (ht : ∀ (s : Shared) (H : Hp) (C : Addr) (cl : List (Str × Addr)) (fp : List Addr), RTs (X.blk s H scope (compEnvC scope cl C X.env) fp) ifs t)
    (hi1 : ∀ (s : Shared) (H : Hp) (C : Addr) (cl : List (Str × Addr)) (fp : List Addr), RI (X.blk s H scope (compEnvC scope cl C X.env) fp) tg1 iter1 it1)
    (hg1 : ∀ (s : Shared) (H : Hp) (C : Addr) (cl : List (Str × Addr)) (fp : List Addr), RG (X.blk s H scope (compEnvC scope cl C X.env) fp) tg1 p1) (ht1 : ∀ (s : Shared) (H : Hp) (C : Addr) (cl : List (Str × Addr)) (fp : List Addr), RTs (X.blk s H scope (compEnvC scope cl C X.env) fp) ifs1 t1)
    (he : ∀ (s : Shared) (H : Hp) (C : Addr) (cl : List (Str × Addr)) (fp : List Addr), RE (X.blk s H scope (compEnvC scope cl C X.env) fp) elt m) (hs : ∀ x, foldedSetIterable iter X.env x = pure x := by intro _; rfl) (hs1 : ∀ env x, foldedSetIterable iter1 env x = pure x := by intro _ _; rfl) :
    RS X (.Assign [.Name y py] (.ListComp elt [⟨tg, iter, ifs, 0⟩, ⟨tg1, iter1, ifs1, 0⟩] scope pos) spos) (sPat (.nm i) (frE vs (eComp2 it p t it1 p1 t1 m (own.map (·.2))))) :=
  ps_imp (ps_setLc2 (i := i) hX.calm (by rw [hX.n]; exact hX.nd) (by rw [hX.n]; exact of_decide_eq_true hy) (locB_ok hX hyl) (hsw X.env hX.s) hi (blk_ok hX ok) (nmem_of hv) hg ht hi1 hg1 ht1 he hs hs1) fun D σ H h => comp2_run hp (fr_run (asg_run h))
end
end Rx

/-! RxK: the head of a law: its facts, a hook with a look of one's own, the law's end. -/
namespace Rx
open PySem PySem.Spec PyProof.Rows L2

theorem fun_ofD {K : PySem.W.Frag} {x : Str} {st : Stmt} {f : Addr} {fd : FuncData} (F : FunD K x x (defArgs st) (defBody st) (defScope st) [] [] f fd) : Fun K x x st f fd := by
  obtain ⟨oc, od, dV, kV, doc, pm, an, cdv, ct, osl, e, lk, hcd, hd, _⟩ := F.ex
  have hn : dV = .none := by
    rcases hd with ⟨_, h⟩ | ⟨h, _⟩
    · exact h
    · exact absurd rfl h
  subst hn
  exact ⟨⟨oc, od, kV, doc, pm, an, cdv, ct, osl, e, lk, hcd⟩, F.kp⟩
/-- a def's datum -/
def dat1 (at_ x : Str) (st : Stmt) : He.DefD := ⟨(at_, none), x, x, defArgs st, defBody st, defScope st, [], []⟩
/-! ### a hook with one more look -/
def obsK (ck : PySem.W.Frag → Bool) (fa : List He.Fa) (fn : List He.DefD) (K : PySem.W.Frag) : He.AlD := ((fa.all fun f => f.ok K) && ((fn.all fun d => d.ok K) && ck K), fn.map fun d => He.fnW K d.at_)
def Tells (ck : PySem.W.Frag → Bool) (fa : List He.Fa) (fn : List He.DefD) (K : PySem.W.Frag) : Prop := obsK ck fa fn K = He.valD fn
def obsKG (n : Nat) (ck : PySem.W.Frag → Bool) (fa : List He.Fa) (fn : List He.DefD) (g : Addr → Option Obj) : He.AlD := obsK ck fa fn (He.frG g (He.asD g n))
def hookK (n : Nat) (ck : PySem.W.Frag → Bool) (fa : List He.Fa) (fn : List He.DefD) : PySem.W.Hook where
  α := He.AlD
  obs := fun s => obsKG n ck fa fn s.heap.get?
  val := fun _ => He.valD fn
  says := fun _ h => ∃ K : PySem.W.Frag, K.In h ∧ Tells ck fa fn K
  of := fun _ _ e => ⟨_, He.frG_in, e⟩
  keeps := fun _ _ _ ⟨K, hK, c⟩ k => ⟨K, PySem.W.Frag.In.keeps hK k, c⟩
theorem obsKG_eq {n : Nat} {ck : PySem.W.Frag → Bool} {fa : List He.Fa} {fn : List He.DefD} {g : Addr → Option Obj} {s : Shared} (h : ∀ a, g a = s.heap.get? a) : obsKG n ck fa fn g = (hookK n ck fa fn).obs s := by
  have e : g = s.heap.get? := funext h
  rw [e]
  rfl
section
variable {ck : PySem.W.Frag → Bool} {fa : List He.Fa} {fn : List He.DefD} {K : PySem.W.Frag}
theorem Tells.all (c : Tells ck fa fn K) : (fa.all fun f => f.ok K) = true ∧ (fn.all fun d => d.ok K) = true ∧ ck K = true := by
  have c1 : ((fa.all fun f => f.ok K) && ((fn.all fun d => d.ok K) && ck K)) = true := congrArg (fun z : He.AlD => z.1) c
  rw [Bool.and_eq_true, Bool.and_eq_true] at c1
  exact c1
theorem Tells.fact (c : Tells ck fa fn K) {f : He.Fa} (h : f ∈ fa) : f.ok K = true := List.all_eq_true.mp c.all.1 f h
theorem Tells.def_ (c : Tells ck fa fn K) (i : Nat) {d : He.DefD} (h : fn[i]? = some d) : ∃ fd, FunD K d.name d.qual d.params d.body d.scope (d.dvs K) (d.kws K) (He.fAd K d.at_) fd := by
  have e : fn.map (fun d => He.fnW K d.at_) = fn.map He.DefD.val := congrArg (fun z : He.AlD => z.2) c
  have e2 : (fn.map fun d => He.fnW K d.at_)[i]? = (fn.map He.DefD.val)[i]? := by rw [e]
  rw [List.getElem?_map, List.getElem?_map, h] at e2
  exact He.DefD.funD (Option.some.inj e2) (List.all_eq_true.mp c.all.2.1 d (List.mem_of_getElem? h))
/-- a def of the text, under its name -/
theorem Tells.fun_ (c : Tells ck fa fn K) {h : Heap} {mg : Str → Option Value} (X : K.In h) (G : h.Ns mainGlobals mg) {x y : Str} {st : Stmt} (i : Nat) (hi : fn[i]? = some (dat1 x y st)) (hg : He.Fa.glo x ∈ fa) : ∃ a fd, Fun K y y st a fd ∧ mg x = some (.ref a) := by
  obtain ⟨fd, F⟩ := c.def_ i hi
  exact ⟨_, fd, fun_ofD F, He.glo_ok X G (c.fact hg)⟩
theorem Tells.bn (c : Tells ck fa fn K) {h : Heap} {mg : Str → Option Value} (X : K.In h) (G : h.Ns mainGlobals mg) (hb : ∀ x ∈ bnames, He.Fa.free x ∈ fa) : Bn mg := fun x hx => He.free_ok X G (c.fact (hb x hx))
theorem Tells.int (c : Tells ck fa fn K) {h : Heap} {mg : Str → Option Value} (X : K.In h) (G : h.Ns mainGlobals mg) {x : Str} {i : Int} (hf : He.Fa.int x i ∈ fa) : ∃ t, mg x = some (.int i t) := He.int_ok X G (c.fact hf)
/-- a tuple of plain things, by a look -/
theorem tupC {h : Heap} {mg : Str → Option Value} (X : K.In h) (G : h.Ns mainGlobals mg) (c : Tells ck fa fn K) {x : Str} {vs : List He.Dv} {us : List V} (hg : He.Fa.glo x ∈ fa) (hb : He.tupB K x vs = true) (hv : vs.map (He.Dv.v K) = us) : ∃ a, mg x = some (.ref a) ∧ SqT K (fun _ => none) a us := by
  rw [← hv]
  exact ⟨_, He.glo_ok X G (c.fact hg), He.tupB_ok hb _⟩
def bltB (K : PySem.W.Frag) (x : Str) (id : String) : Bool := He.eqO (PySem.W.nsIn K mainGlobals x) (some (some (.builtin id)))
theorem bltB_ok {h : Heap} {mg : Str → Option Value} (X : K.In h) (G : h.Ns mainGlobals mg) {x : Str} {id : String} (c : bltB K x id = true) : mg x = some (.builtin id) := PySem.W.mg_of X G (He.eqO_ok c)
end
/-- what a law comes to -/
theorem lP_law {E : XK} {K : PySem.W.Frag} {f : FX} {H : Hp} {a : Addr} {ns : List Int} (hO : Only H) (hS : SqL K H a (ns.map V.int)) (h : ∃ st', f [.frz ns] [] = .ok (.bl true) st') : lP K 1 f [.ref a] H (fun v _ => v = .bl true) E := by
  obtain ⟨st', e⟩ := h
  refine ⟨rfl, fun _ => a, [], [.frz ns], .bl true, st', Sim.nil, .cons (.frz ?_) .nil, e, fun μ' H' v _ _ r => ?_⟩
  · rcases hS with (h | h) | h
    · rcases hO a with q | ⟨o, xs, q⟩
      · rw [q] at h; cases h
      · rw [q] at h; cases h
    · exact .inl h
    · exact .inr h
  · cases r
    rfl
end Rx

/-! RxX: a def that raises an own error (a class of the text, no fields), caught by one handler with a name. -/
namespace Rx
open PySem PySem.Spec PyProof.Rows L2

section
variable {X : Cx}
theorem ps_nox {st : Stmt} {t : TS} (h : PS X.nox st t) : PS X st t := ⟨fun pins s σ H D I hw =>
  wpAny_mono (h.run pins s σ H D (I.wish _) hw) (fun _ _ q => q.unwish) fun _ _ z => z.elim⟩
/-- a, b = e where the stores' order hangs on the names' kinds -/
theorem rs_asgS {N : List Str} {sc : Scope} (hX : In X N sc) {tg e : Expr} {pos : Pos} {p : Pat} {m : EX} (hg : RG X tg p) (he : RE X e m) (hw : ∀ env : Env, env.scope = sc → swappedStores [tg] e env = pure none) (hs : swapsWithSole [tg] e pos.line X.env = pure false := by rfl)
    (h1 : (assignEach [tg] X.env).map (·.2) = [assign tg X.env] := by rfl) : RS X (.Assign [tg] e pos) (sPat p m) := rs_asg hg he hs (hw X.env hX.s) h1
theorem rs_tgsS {N : List Str} {sc : Scope} (hX : In X N sc) {e : Expr} {pos : Pos} {ts : List Tg} {m : EX} {es : List Expr} {k0 : Nat} {tpos : Pos} (hg : PGs X es (gTgs X.K ts)) (he : RE X e m) (hw : ∀ env : Env, env.scope = sc → swappedStores [.Tuple es k0 tpos] e env = pure none) (hn : (assignEach es X.env).length = ts.length := by rfl) (hst : (assignEach es X.env).findIdx? (·.1) = none := by rfl) (hs : swapsWithSole [.Tuple es k0 tpos] e pos.line X.env = pure false := by rfl)
    (h1 : (assignEach [.Tuple es k0 tpos] X.env).map (·.2) = [assign (.Tuple es k0 tpos) X.env] := by rfl) : RS X (.Assign [.Tuple es k0 tpos] e pos) (sTgs ts m) := rs_tgs hX hg he hn hst hs (hw X.env hX.s) h1
/-- a try whose body raises nothing -/
theorem rs_try {N : List Str} {sc : Scope} (hX : In X N sc) {body : List Stmt} {h₀ : ExceptHandler} {hs : List ExceptHandler} {pos : Pos} {m : SX} (hb : RSs X body m) : RS X (.Try body (h₀ :: hs) [] [] pos) m :=
  ps_imp (ps_try_never (by rw [hX.nox]; exact fun _ _ z => z) hb pss_nil) fun D σ H h => h
/-- C() -/
theorem pmk_own0 {C : Addr} {bmB : List Value} {B newId initId : String} {x : Str} {p pos : Pos} (F : ExcBaseFacts B newId initId bmB) (q : PySem.W.excIn X.K C bmB newId = true) (gC : X.mg x = some (.ref C)) (kC : PySem.W.keepIn X.K (.ref C) = true) (r : Raises X (.ref C)) (hg : Gl X x)
    (hdb : (x == ("__debug__" : Str)) = false) : PMk X (.Call (.Name x p) [] [] pos) (fun _ H Q => Q (.ref C) none H) := by
  intro pins s σ H Q I h
  refine wpAny_Call_Name_kw (ld_glob I hg gC ?_ hdb)
  refine PySem.W.callWith_K0 I.kIn kC ?_
  show wpAny _ _ (call (.ref C) []) _ _ _
  obtain ⟨bm, N, nm, qn, bs, hdct, sn, sub, ab, col, dd, k0, k1, k2, k3, k5, mN, hC, hN, hni, T⟩ := exc_obj I.kIn q
  refine wpAny_call_exc_subT F T hC hN hni (fun h' e hm => ?_) (Nat.zero_le _)
  exact mk_of I hm r h (I.hok.gone hm.new)
end
/-- what is told of the class of an error -/
structure ErrC (K : PySem.W.Frag) (mg : Str → Option Value) (x : Str) (C : Addr) : Prop where
  mg_ : mg x = some (.ref C)
  ex : PySem.W.excIn K C He.veBase "ValueError.__new__" = true
  kp : PySem.W.keepIn K (.ref C) = true
  sub : PySem.W.subIn K (.ref C) (.type "BaseException") = some true
  ty : PySem.W.typeIn K (.ref C) = some (.type "type")
  exm : PySem.W.exmOne K (.ref C) (.ref C) = some true
  cls : ExcC K C
  val : PySem.W.kitOne K (.ref C) (.type "ValueError") = some true
def errB (K : PySem.W.Frag) (x : Str) : Bool :=
  let C := He.ga K x
  He.eqO (PySem.W.nsIn K mainGlobals x) (some (some (.ref C))) && (PySem.W.excIn K C He.veBase "ValueError.__new__" && (PySem.W.keepIn K (.ref C) && (decide (PySem.W.subIn K (.ref C) (.type "BaseException") = some true) && (decide (PySem.W.typeIn K (.ref C) = some (.type "type")) &&
  (decide (PySem.W.exmOne K (.ref C) (.ref C) = some true) && (decide (PySem.W.kitOne K (.ref C) (.type "ValueError") = some true) &&
  (He.eqO (PySem.W.findIn K (.ref C) "__getattribute__") (some (some (.builtin "BaseException.__getattribute__"))) && (He.eqO (PySem.W.findIn K (.ref C) "__getattr__") (some none) && (PySem.W.hasDictIn K C &&
  (He.eqO (PySem.W.findIn K (.ref C) "__class__") (some (some (.builtin "object.__class__"))) && (He.eqO (PySem.W.specialIn K (.builtin "object.__class__") "__get__") (some (some (.builtin "getset_descriptor.__get__"))) && (decide (PySem.W.takesIn K (.builtin "object.__class__") = some true) && decide (PySem.W.mroIn K C (.type "object") = some true)))))))))))))
theorem errB_ok {K : PySem.W.Frag} {h : Heap} {mg : Str → Option Value} (X : K.In h) (G : h.Ns mainGlobals mg) {x : Str} (c : errB K x = true) : ErrC K mg x (He.ga K x) := by
  unfold errB at c
  simp only [Bool.and_eq_true, decide_eq_true_eq] at c
  obtain ⟨c1, c2, c3, c4, c5, c6, c7, c8, c9, c10, c11, c12, c13, c14⟩ := c
  exact ⟨PySem.W.mg_of X G (He.eqO_ok c1), c2, c3, c4, c5, c6, ⟨He.eqO_ok c8, He.eqO_ok c9, c4, c10, He.eqO_ok c11, He.eqO_ok c12, c13, c14⟩, c7⟩

section
variable {P : Program} {w : World} {K : PySem.W.Frag} {mg : Str → Option Value} {base : Heap}
/-- after the statement m, the test mc stands: the error C is raised -/
def rP (K : PySem.W.Frag) (nN np : Nat) (m : SX) (mc : TX) (C : Addr) : Sp := fun vs H _ E => vs.length = np ∧ ∃ μ st ws env1 s1 s2, Sim K μ st H ∧ Reps K μ st.length H vs ws ∧ m (ws.map some ++ List.replicate (nN - np) none) st = .ok (.nx env1) s1 ∧ mc env1 s1 = .ok true s2 ∧
  ∀ μ' H', Nxt K μ st.length H μ' s2.length H' → Sim K μ' s2 H' → E (.ref C) none H'
theorem fn_raise {x qual y : Str} {st : Stmt} {f C : Addr} {fd : FuncData} {N ps : List Str} {k : Nat} {m : SX} {mc : TX} {s1 : Stmt} {c : Expr} {rest : List Stmt} {p p2 p3 p4 : Pos} (F : Fun K x qual st f fd) (S : FnScope N ps (defScope st)) (er : ErrC K mg y C)
    (hbody : defBody st = s1 :: .If c [.Raise (some (.Call (.Name y p) [] [] p2)) none p3] [] p4 :: rest) (hy : glB (defScope st) y = true) (hdb : (y == ("__debug__" : Str)) = false)
    (h1 : ∀ X, InF X N (defScope st) → Gx X P w K mg base → Room k X.A → RS X s1 m) (h2 : ∀ X, InF X N (defScope st) → Gx X P w K mg base → Room k X.A → RT X c mc) :
    FnOk P w K mg base (L2.CX P w) (k + 1) f fd ps (rP K N.length ps.length m mc C) := by
  refine F.okX S (fun vs H Q E h => h.1) fun cdv A outer s H vs Q E hr h => ?_
  obtain ⟨hl, μ, st0, ws, env1, st1, st2, Sm, r, e1, e2, k0⟩ := h
  have hX : ∀ {X : Cx}, X = (cxOf (L2.CX P w) P w K mg base N qual (defScope st) f cdv A outer s H E).nox → InF X N (defScope st) ∧ Gx X P w K mg base ∧ Room k X.A := by
    rintro X rfl
    exact ⟨⟨⟨rfl, rfl, rfl, rfl, S.nd, hr.mono (Nat.zero_le _)⟩, fun _ _ => rfl⟩, ⟨rfl, rfl, rfl, rfl, rfl⟩, hr⟩
  obtain ⟨i1, i2, i3⟩ := hX rfl
  have tk : Takes (cxOf (L2.CX P w) P w K mg base N qual (defScope st) f cdv A outer s H E) (fun cls d _ H => E cls d H) := takes_of rfl rfl rfl rfl
  have hg : Gl (cxOf (L2.CX P w) P w K mg base N qual (defScope st) f cdv A outer s H E) y := by
    have := i1.toIn.gl hy
    exact this
  have hraise := ps_raise (pos := p3) (e := .Call (.Name y p) [] [] p2) rfl tk (pmk_own0 (X := cxOf (L2.CX P w) P w K mg base N qual (defScope st) f cdv A outer s H E) PySem.F.excBase_ValueError er.ex er.mg_ er.kp (raises_own er.sub er.ty) hg hdb)
  refine ⟨_, by rw [hbody]; exact pss_cons (ps_nox (h1 _ i1 i2 i3)) (pss_cons (ps_if (PT.nox (h2 _ i1 i2 i3)) (pss_one hraise) pss_nil) pss_never), ?_⟩
  have hlen : ws.length = ps.length := by rw [← r.length]; exact hl
  refine ⟨μ, _, st0, _, _, Sm, envR_start r hlen, e1, fun μ' H' N' S' σ' E' => ?_⟩
  refine ⟨μ', env1, st1, true, st2, S', E', e2, fun μ2 H2 N2 S2 => ?_⟩
  show if true = true then _ else _
  rw [if_pos rfl]
  exact k0 _ _ (N'.trans N2) S2
end

/-! ### f(k = v, ..) that may raise -/
section
variable {X : Cx} {CX : CXT} {k : Nat} {f : Addr} {fd : FuncData} {ps : List Str} {sp : Sp} {E : L2.St → XK} {x : Str} {p pos : Pos} {kws : List Keyword} {t : TA}
theorem pe_callKS (F : FnOk X.prog X.w X.K X.mg X.base CX k f fd ps sp) (hr : Room k X.A) (hg : Gl X x) (hm : X.mg x = some (.ref f)) (hk : PySem.W.keepIn X.K (.ref f) = true)
    (hb : ∀ (s : Shared) (ws : List Value), ws.length = ps.length → BindsTo s fd ⟨[], ps.zip ws⟩ (ps.zip ws)) (hx : ∀ σ, PassesAt CX X σ (E σ)) (hkw : PK X kws t)
    (hall : (backToKw pos (keywordEach kws X.env)).all (·.1.isSome) = true) (hks : (backToKw pos (keywordEach kws X.env)).filterMap (·.1) = ps)
    (hdb : (x == ("__debug__" : Str)) = false)
    (hpl : ((backTo pos (starEach [] X.env)).any (·.1) || (backToKw pos (keywordEach kws X.env)).any (·.1.isNone)) = false) : PE X (.Call (.Name x p) [] kws pos) (tCallS sp E t) := by
  refine ⟨fun pins s σ H Q I h => ?_⟩
  refine wpAny_Call_Name_kw (ld_glob I hg hm ?_ hdb)
  refine PySem.W.callWith_KW0 (h₀ := X.base) I.ok.mod.kin hk hall (thn (hkw.run pos pins s σ H _ I h) fun ws s2 ⟨zs, H2, I2, rz, q2⟩ => ⟨I2.kIn, ?_⟩) hpl
  rw [hks]
  have hl : ws.length = ps.length := by rw [← rz.length]; exact F.len _ _ _ _ q2
  refine wpAny_call (codeAny_mono (F.run X.A X.stack s2 H2 ⟨[], ps.zip ws⟩ ws zs Q (E σ) hr I2.env0 (hb s2 ws hl) rz q2) fun r s' hq => ?_)
  cases r with
  | error e => exact hx σ pins H2 s2 e s' I2 hq
  | ok fl =>
    cases fl with
    | ret u => exact I2.after hq
    | next => exact False.elim hq
    | brk => exact False.elim hq
    | cont => exact False.elim hq
end
end Rx

/-! RxL: how mirrors are worked out. -/
namespace Rx
open PySem PySem.Spec PyProof.Rows L2
section
variable {f : FX} {ws : List W} {st s s' : Sto} {w x y : W} {vs : List Nat} {m ma mb : EX} {t u : TX} {env e : Env'} {b : Bool} {n : Nat} {xs : List W} {p q : SX} {g : W → W → Sto → R W} {i : Nat}
def isLs : W → Bool
  | .ls _ => true
  | _ => false
theorem fr_ok (h : lowE env vs = true) (h2 : m (pickE env vs) [] = .ok w s) (hw : w.low 0 = true) : frE vs m env st = .ok w st := by
  unfold frE
  rw [if_pos h, h2]
  show (if w.low 0 = true then _ else _) = _
  rw [if_pos hw]
theorem fr_no (h : lowE env vs = false) : frE vs m env st = m env st := by
  unfold frE
  rw [if_neg (by rw [h]; exact Bool.false_ne_true)]
theorem frT_ok (h : lowE env vs = true) (h2 : t (pickE env vs) [] = .ok b s) : frT vs t env st = .ok b st := by
  unfold frT
  rw [if_pos h, h2]
  rfl
theorem callM_ok (hl : W.lows 0 ws = true) (h : f ws [] = .ok w s) (hw : w.low 0 = true) : callM f ws st = .ok w st := by
  unfold callM
  rw [if_pos hl, h]
  show (if w.low 0 = true then _ else _) = _
  rw [if_pos hw]
theorem callM_ls (hl : W.lows 0 ws = true) (h : f ws [] = .ok (.ls n) s) (e : s[n]? = some (.lst xs)) (hx : W.lows 0 xs = true) : callM f ws st = .ok (.ls st.length) (st ++ [.lst xs]) := by
  unfold callM
  rw [if_pos hl, h]
  unfold pureR
  simp only []
  rw [if_neg (by simp [W.low])]
  simp only [e]
  rw [if_pos hx]
theorem callM_sh (hl : W.lows 0 ws = false) (h : f ws st = .ok w s) (len : s.length = st.length) (hw : isLs w = false) : callM f ws st = .ok w s := by
  unfold callM
  rw [if_neg (by rw [hl]; exact Bool.false_ne_true), h]
  unfold trimR
  have e : s.take st.length = s := by rw [← len]; exact List.take_length
  simp only [e]
  split
  · split
    · rfl
    · cases w <;> first | rfl | cases hw
  · rfl
theorem mk_rt {nN np : Nat} (hl : ws.length = np) (h : p (ws.map some ++ List.replicate (nN - np) none) st = .ok (.rt w) s) : mkFn nN np p ws st = .ok w s := by
  unfold mkFn
  rw [if_pos hl, h]
theorem seq_nx (h : p env st = .ok (.nx e) s) : sSeq p q env st = q e s := by
  unfold sSeq
  rw [h]
theorem seq_rt (h : p env st = .ok (.rt w) s) : sSeq p q env st = .ok (.rt w) s := by
  unfold sSeq
  rw [h]
theorem pat_nm (h : m env st = .ok w s) : sPat (.nm i) m env st = .ok (.nx (env.set i (some w))) s := by
  unfold sPat
  rw [h]
  rfl
theorem if_t (h : t env st = .ok true s) : sIf t p q env st = p env s := by
  unfold sIf
  rw [h]
  rfl
theorem if_f (h : t env st = .ok false s) : sIf t p q env st = q env s := by
  unfold sIf
  rw [h]
  rfl
theorem ret_ok (h : m env st = .ok w s) : sRet m env st = .ok (.rt w) s := by
  unfold sRet
  rw [h]
  rfl
theorem or_f (h : t env st = .ok false s) : tOrM t u env st = u env s := by
  unfold tOrM
  rw [h]
  rfl
theorem or_t (h : t env st = .ok true s) : tOrM t u env st = .ok true s := by
  unfold tOrM
  rw [h]
  rfl
theorem and_t (h : t env st = .ok true s) : tAndM t u env st = u env s := by
  unfold tAndM
  rw [h]
  rfl
theorem and_f (h : t env st = .ok false s) : tAndM t u env st = .ok false s := by
  unfold tAndM
  rw [h]
  rfl
theorem not_ok (h : t env st = .ok b s) : tNotM t env st = .ok (!b) s := by
  unfold tNotM
  rw [h]
  rfl
theorem tru_bl (h : m env st = .ok (.bl b) s) : tTru m env st = .ok b s := by
  unfold tTru
  rw [h]
  rfl
theorem tBl_ok (h : m env st = .ok (.bl b) s) : tBl m env st = .ok b s := by
  unfold tBl
  rw [h]
  rfl
theorem bin_ok (h1 : ma env st = .ok x s) (h2 : mb env s = .ok y s') : eBin g ma mb env st = g x y s' := by
  unfold eBin
  rw [h1]
  show R.bind (mb env s) _ = _
  rw [h2]
  rfl
theorem call1 (h : m env st = .ok x s) : eCall f (aCons m aNil) env st = f [x] s := by
  unfold eCall aCons
  rw [h]
  rfl
theorem call2 (h : ma env st = .ok x s) (h2 : mb env s = .ok y s') : eCall f (aCons ma (aCons mb aNil)) env st = f [x, y] s' := by
  simp only [eCall, aCons, aNil, R.bind, h, h2]
theorem tup2 (h : ma env st = .ok x s) (h2 : mb env s = .ok y s') : eTup (aCons ma (aCons mb aNil)) env st = .ok (.tup [x, y]) s' := by
  simp only [eTup, aCons, aNil, R.bind, h, h2]
  rfl
theorem evar_ok (h : env[i]? = some (some w)) : evar i env st = .ok w st := by
  unfold evar
  rw [h]
/-- two values of the same data -/
theorem eq_same {d : PyData} (h1 : dat st deep x = some d) (h2 : dat st deep y = some d) : fEq false x y st = .ok (.bl true) st := by
  unfold fEq
  rw [h1, h2]
  show R.ok (W.bl (xor false (PyData.eqv d d))) st = _
  rw [PySem.SeqAt.eqv_refl d (dat_sh _ h1).1]
  rfl
theorem ne_same {d : PyData} (h1 : dat st deep x = some d) (h2 : dat st deep y = some d) : fEq true x y st = .ok (.bl false) st := by
  unfold fEq
  rw [h1, h2]
  show R.ok (W.bl (xor true (PyData.eqv d d))) st = _
  rw [PySem.SeqAt.eqv_refl d (dat_sh _ h1).1]
  rfl
theorem bin_to {s3 : Sto} {z : W} (h1 : ma env st = .ok x s) (h2 : mb env s = .ok y s') (h3 : g x y s' = .ok z s3) : eBin g ma mb env st = .ok z s3 := (bin_ok h1 h2).trans h3
theorem test_nx (h1 : lowE env vs = true) (h2 : t (pickE env vs) [] = .ok false s) : sIf (frT vs t) p sNil env st = .ok (.nx env) st := (if_f (frT_ok h1 h2)).trans rfl
/-! ### for over a written list -/
theorem for_fix {Inv : Nat → Env' → Sto → Prop} {i : Nat} {body : SX} : ∀ (xs : List W) (k : Nat) (ys : List W) (env : Env') (st : Sto), ys.length = k → Inv k env st →
    (∀ (j : Nat) (x : W) (env : Env') (st : Sto), (ys ++ xs)[j]? = some x → k ≤ j → Inv j env st → ∃ env' st', body (env.set i (some x)) st = .ok (.nx env') st' ∧ Inv (j + 1) env' st') →
    ∃ env' st', forM (.fix (ys ++ xs)) (.nm i) body (xs.length + 1) k env st = .ok (.nx env') st' ∧ Inv (k + xs.length) env' st'
  | [], k, ys, env, st, hk, h, hb => by
    refine ⟨env, st, ?_, h⟩
    unfold forM Src.at
    simp [hk]
  | x :: xs, k, ys, env, st, hk, h, hb => by
    have hx : (ys ++ x :: xs)[k]? = some x := by
      rw [List.getElem?_append_right (by omega), hk]
      simp
    obtain ⟨e1, s1, h1, h2⟩ := hb k x env st hx (Nat.le_refl _) h
    have ea : ys ++ x :: xs = (ys ++ [x]) ++ xs := by simp
    obtain ⟨e2, s2, h3, h4⟩ := for_fix xs (k + 1) (ys ++ [x]) e1 s1 (by simp [hk]) h2 (by
      intro j y env st hj hk2 hI
      rw [← ea] at hj
      exact hb j y env st hj (by omega) hI)
    refine ⟨e2, s2, ?_, by
      have : k + 1 + xs.length = k + (x :: xs).length := by simp; omega
      rw [← this]; exact h4⟩
    rw [ea]
    rw [← ea]
    show forM (.fix (ys ++ x :: xs)) (.nm i) body (xs.length + 1 + 1) k env st = _
    unfold forM
    simp only [Src.at, hx, Pat.set, h1]
    rw [ea]
    exact h3
theorem for_all {Inv : Nat → Env' → Sto → Prop} {i : Nat} {body : SX} {xs : List W} {env : Env'} {st : Sto} (h : Inv 0 env st)
    (hb : ∀ (j : Nat) (x : W) (env : Env') (st : Sto), xs[j]? = some x → Inv j env st → ∃ env' st', body (env.set i (some x)) st = .ok (.nx env') st' ∧ Inv (j + 1) env' st') :
    ∃ env' st', forM (.fix xs) (.nm i) body (xs.length + 1) 0 env st = .ok (.nx env') st' ∧ Inv xs.length env' st' := by
  obtain ⟨e, s, h1, h2⟩ := for_fix (Inv := Inv) (i := i) (body := body) xs 0 [] env st rfl h (fun j x env st hj _ hI => hb j x env st (by simpa using hj) hI)
  refine ⟨e, s, by simpa using h1, ?_⟩
  have : 0 + xs.length = xs.length := Nat.zero_add _
  rw [← this]
  exact h2
theorem rngW_len (lo c : Int) : ∀ n : Nat, (rngW lo c n).length = n
  | 0 => rfl
  | n + 1 => by simp [rngW, rngW_len (lo + c) c n]
end
/-! ### a comprehension over a written list -/
theorem comp_fix {Inv : Nat → Sto → Prop} {P : W → Prop} {xs : List W} {i : Nat} {m : EX} {env : Env'} (hb : ∀ j x st, xs[j]? = some x → Inv j st → ∃ y st', m (env.set i (some x)) st = .ok y st' ∧ P y ∧ Inv (j + 1) st') :
    ∀ (n k : Nat) (st : Sto), k + n = xs.length → Inv k st → ∃ ys st', compM (.fix xs) (.nm i) tYesM m env (n + 1) k st = .ok ys st' ∧ ys.length = n ∧ (∀ y ∈ ys, P y) ∧ Inv xs.length st'
  | 0, k, st, hk, h => by
    refine ⟨[], st, ?_, rfl, (fun y hy => by cases hy), (by rw [← hk]; exact h)⟩
    unfold compM
    simp only [Src.at, List.getElem?_eq_none (show xs.length ≤ k by omega)]
  | n + 1, k, st, hk, h => by
    have hx : xs[k]? = some xs[k] := List.getElem?_eq_getElem (by omega)
    obtain ⟨y, s1, h1, h2, h3⟩ := hb k _ st hx h
    obtain ⟨ys, s2, h4, h5, h6, h7⟩ := comp_fix hb n (k + 1) s1 (by omega) h3
    refine ⟨y :: ys, s2, ?_, by simp [h5], fun z hz => ?_, h7⟩
    · unfold compM
      simp only [Src.at, hx, Pat.set, tYesM, h1, h4]
    · rcases List.mem_cons.mp hz with rfl | hz
      · exact h2
      · exact h6 z hz
/-! ### sizes -/
theorem small63_of {i : Int} (h : i.natAbs < 9223372036854775808) : small63 i = true := by
  unfold small63
  rw [Nat.blt_eq]
  exact h
theorem mulC_l {i j : Int} (h : small63 i = true) : mulC i j = true := by
  unfold mulC
  rw [h]
  rfl
theorem mulC_r {i j : Int} (h : small63 j = true) : mulC i j = true := by
  unfold mulC
  rw [h]
  cases small63 i <;> rfl
theorem mulC_b {i j : Int} (h : bigOk i = true) (h2 : bigOk j = true) : mulC i j = true := by
  unfold mulC
  rw [h, h2]
  cases small63 i <;> cases small63 j <;> rfl
theorem fmod_rng {x b : Int} (hb : 0 < b) : 0 ≤ x.fmod b ∧ x.fmod b < b := by
  rw [Int.fmod_eq_emod_of_nonneg x (by omega)]
  exact ⟨Int.emod_nonneg x (by omega), Int.emod_lt_of_pos x hb⟩
end Rx

set_option maxHeartbeats 0
namespace Rx.K84
open PySem PySem.Spec PyProof.Rows L2 Rx

def prog : Program := PySem.Challenge.pw_kissroads_k84_across_fractions_by_rules
def top (i : Nat) : Stmt := PySem.Challenge.pw_kissroads_k84_across_fractions_by_rules.main.body.getD i (.Pass ⟨0, 0, 0, 0⟩)
abbrev s_is_number : Stmt := top 5
abbrev s_is_from : Stmt := top 6
abbrev s_is_long : Stmt := top 7
abbrev s_tupled : Stmt := top 8
abbrev s_power_of : Stmt := top 9
abbrev s_is_fraction : Stmt := top 14
abbrev s_lowest : Stmt := top 15
abbrev s_sure_fraction : Stmt := top 16
abbrev s_added : Stmt := top 17
abbrev s_times : Stmt := top 18
abbrev s_over : Stmt := top 19
abbrev s_power : Stmt := top 20
abbrev s_fraction : Stmt := top 21
abbrev s_fraction_sum : Stmt := top 22
abbrev s_fraction_product : Stmt := top 23
abbrev s_fraction_over : Stmt := top 24
abbrev s_fraction_power : Stmt := top 25
abbrev s__law_box : Stmt := top 27
abbrev s__law_take : Stmt := top 28
abbrev s__law_cells : Stmt := top 29
abbrev s__law_of : Stmt := top 30
abbrev s__law_same : Stmt := top 31
abbrev s__law_unmarked : Stmt := top 32
abbrev s__law_gcd : Stmt := top 33
abbrev s__law_cut : Stmt := top 34
abbrev s__law_mul : Stmt := top 35
abbrev s__law_pow : Stmt := top 36
abbrev s__law_over : Stmt := top 37
abbrev s_law : Stmt := top 38
structure HH (K : PySem.W.Frag) (mg : Str → Option Value) : Prop where
  F_is_number : ∃ a fd, Fun K "is_number" "is_number" s_is_number a fd ∧ mg "is_number" = some (.ref a)
  F_is_from : ∃ a fd, Fun K "is_from" "is_from" s_is_from a fd ∧ mg "is_from" = some (.ref a)
  F_is_long : ∃ a fd, Fun K "is_long" "is_long" s_is_long a fd ∧ mg "is_long" = some (.ref a)
  F_tupled : ∃ a fd, Fun K "tupled" "tupled" s_tupled a fd ∧ mg "tupled" = some (.ref a)
  F_power_of : ∃ a fd, Fun K "power_of" "power_of" s_power_of a fd ∧ mg "power_of" = some (.ref a)
  F_is_fraction : ∃ a fd, Fun K "is_fraction" "is_fraction" s_is_fraction a fd ∧ mg "is_fraction" = some (.ref a)
  F_lowest : ∃ a fd, Fun K "lowest" "lowest" s_lowest a fd ∧ mg "lowest" = some (.ref a)
  F_sure_fraction : ∃ a fd, Fun K "sure_fraction" "sure_fraction" s_sure_fraction a fd ∧ mg "sure_fraction" = some (.ref a)
  F_added : ∃ a fd, Fun K "added" "added" s_added a fd ∧ mg "added" = some (.ref a)
  F_times : ∃ a fd, Fun K "times" "times" s_times a fd ∧ mg "times" = some (.ref a)
  F_over : ∃ a fd, Fun K "over" "over" s_over a fd ∧ mg "over" = some (.ref a)
  F_power : ∃ a fd, Fun K "power" "power" s_power a fd ∧ mg "power" = some (.ref a)
  F_fraction : ∃ a fd, Fun K "fraction" "fraction" s_fraction a fd ∧ mg "fraction" = some (.ref a)
  F_fraction_sum : ∃ a fd, Fun K "fraction_sum" "fraction_sum" s_fraction_sum a fd ∧ mg "fraction_sum" = some (.ref a)
  F_fraction_product : ∃ a fd, Fun K "fraction_product" "fraction_product" s_fraction_product a fd ∧ mg "fraction_product" = some (.ref a)
  F_fraction_over : ∃ a fd, Fun K "fraction_over" "fraction_over" s_fraction_over a fd ∧ mg "fraction_over" = some (.ref a)
  F_fraction_power : ∃ a fd, Fun K "fraction_power" "fraction_power" s_fraction_power a fd ∧ mg "fraction_power" = some (.ref a)
  F__law_box : ∃ a fd, Fun K "_law_box" "_law_box" s__law_box a fd ∧ mg "_law_box" = some (.ref a)
  F__law_take : ∃ a fd, Fun K "_law_take" "_law_take" s__law_take a fd ∧ mg "_law_take" = some (.ref a)
  F__law_cells : ∃ a fd, Fun K "_law_cells" "_law_cells" s__law_cells a fd ∧ mg "_law_cells" = some (.ref a)
  F__law_of : ∃ a fd, Fun K "_law_of" "_law_of" s__law_of a fd ∧ mg "_law_of" = some (.ref a)
  F__law_same : ∃ a fd, Fun K "_law_same" "_law_same" s__law_same a fd ∧ mg "_law_same" = some (.ref a)
  F__law_unmarked : ∃ a fd, Fun K "_law_unmarked" "_law_unmarked" s__law_unmarked a fd ∧ mg "_law_unmarked" = some (.ref a)
  F__law_gcd : ∃ a fd, Fun K "_law_gcd" "_law_gcd" s__law_gcd a fd ∧ mg "_law_gcd" = some (.ref a)
  F__law_cut : ∃ a fd, Fun K "_law_cut" "_law_cut" s__law_cut a fd ∧ mg "_law_cut" = some (.ref a)
  F__law_mul : ∃ a fd, Fun K "_law_mul" "_law_mul" s__law_mul a fd ∧ mg "_law_mul" = some (.ref a)
  F__law_pow : ∃ a fd, Fun K "_law_pow" "_law_pow" s__law_pow a fd ∧ mg "_law_pow" = some (.ref a)
  F__law_over : ∃ a fd, Fun K "_law_over" "_law_over" s__law_over a fd ∧ mg "_law_over" = some (.ref a)
  F_law : ∃ a fd, Fun K "law" "law" s_law a fd ∧ mg "law" = some (.ref a)
  c_NOUGHT : ∃ a, mg "NOUGHT" = some (.ref a) ∧ SqT K (fun _ => none) a [.int 0, .int 1]
  c_ONE : ∃ a, mg "ONE" = some (.ref a) ∧ SqT K (fun _ => none) a [.int 1, .int 1]
  c_MOST_POWER : ∃ t, mg "MOST_POWER" = some (.int 1000 t)
  er : ∃ C, ErrC K mg "CanNot" C
  gcd : mg "gcd" = some (.builtin "math.gcd")
section
variable {P : Program} {w : World} {K : PySem.W.Frag} {mg : Str → Option Value} {base : Heap} {X : Cx}
def N_is_number : List Str := ["thing"]
def m_is_number : SX :=
  (sRet (eAnd (eCall (f2 gIsi) (aCons (evar 0) (aCons (cst (.ty "int")) aNil))) (eNot (eCall (f2 gIsi) (aCons (evar 0) (aCons (cst (.ty "bool")) aNil))))))
def f_is_number : FX := mkFn 1 1 m_is_number
theorem ar_is_number : Ar 1 f_is_number := ar_mk
theorem d_is_number (hh : HH K mg) (B : Bn mg) (hX : InF X N_is_number (defScope s_is_number)) (G : Gx X P w K mg base) (hr : Room 0 X.A) : RSs X (defBody s_is_number) m_is_number :=
  (rss_one (rs_ret (re_and (re_callB hX.toIn (x := "isinstance") (id := "isinstance") c_isi (by kernel_rfl) (G.no B (x := "isinstance") (by kernel_rfl)) (by rfl) (ra_cons (re_var hX.toIn (by kernel_rfl)) (ra_cons (re_type hX.toIn (x := "int") (by kernel_rfl) (G.no B (x := "int") (by kernel_rfl)) (by rfl)) ra_nil))) (re_one (re_not (re_callB hX.toIn (x := "isinstance") (id := "isinstance") c_isi (by kernel_rfl) (G.no B (x := "isinstance") (by kernel_rfl)) (by rfl) (ra_cons (re_var hX.toIn (by kernel_rfl)) (ra_cons (re_type hX.toIn (x := "bool") (by kernel_rfl) (G.no B (x := "bool") (by kernel_rfl)) (by rfl)) ra_nil))))))))
theorem c_is_number (hh : HH K mg) (B : Bn mg) : Cl P w K mg base 1 "is_number" ["thing"] f_is_number := by
  obtain ⟨a, fd, F, hm⟩ := hh.F_is_number
  exact cl_of (N := N_is_number) F hm (by kernel_rfl) (fun _ _ _ _ _ _ us hl => match us, hl with | [_], _ => rfl) (fun _ _ _ _ _ _ us hl => match us, hl with | [_], _ => rfl) fun X hX G hr => d_is_number hh B hX G hr
def N_is_from : List Str := ["thing", "least"]
def m_is_from : SX :=
  (sRet (frE [0, 1] (eAnd (eCall (callM f_is_number) (aCons (evar 0) aNil)) (eBin (fCmp geI) (evar 0) (evar 1)))))
def f_is_from : FX := mkFn 2 2 m_is_from
theorem ar_is_from : Ar 2 f_is_from := ar_mk
theorem d_is_from (hh : HH K mg) (B : Bn mg) (hX : InF X N_is_from (defScope s_is_from)) (G : Gx X P w K mg base) (hr : Room 1 X.A) : RSs X (defBody s_is_from) m_is_from :=
  (rss_one (rs_ret (re_fr [0, 1] (re_and (re_call hX.toIn G (c_is_number (base := base) (w := w) hh B) ar_is_number hr (by first | decide | omega) (by kernel_rfl) (ra_cons (re_var hX.toIn (by kernel_rfl)) ra_nil)) (re_one (re_cmp o_ge (re_var hX.toIn (by kernel_rfl)) (re_var hX.toIn (by kernel_rfl)) (nomark _)))))))
theorem c_is_from (hh : HH K mg) (B : Bn mg) : Cl P w K mg base 2 "is_from" ["thing", "least"] f_is_from := by
  obtain ⟨a, fd, F, hm⟩ := hh.F_is_from
  exact cl_of (N := N_is_from) F hm (by kernel_rfl) (fun _ _ _ _ _ _ us hl => match us, hl with | [_, _], _ => rfl) (fun _ _ _ _ _ _ us hl => match us, hl with | [_, _], _ => rfl) fun X hX G hr => d_is_from hh B hX G hr
def N_is_long : List Str := ["thing", "length"]
def m_is_long : SX :=
  (sRet (eAnd (eCall (f2 gIsi) (aCons (evar 0) (aCons (cst (.ty "tuple")) aNil))) (eBin (fEq false) (eCall (f1 gLen) (aCons (evar 0) aNil)) (evar 1))))
def f_is_long : FX := mkFn 2 2 m_is_long
theorem ar_is_long : Ar 2 f_is_long := ar_mk
theorem d_is_long (hh : HH K mg) (B : Bn mg) (hX : InF X N_is_long (defScope s_is_long)) (G : Gx X P w K mg base) (hr : Room 0 X.A) : RSs X (defBody s_is_long) m_is_long :=
  (rss_one (rs_ret (re_and (re_callB hX.toIn (x := "isinstance") (id := "isinstance") c_isi (by kernel_rfl) (G.no B (x := "isinstance") (by kernel_rfl)) (by rfl) (ra_cons (re_var hX.toIn (by kernel_rfl)) (ra_cons (re_type hX.toIn (x := "tuple") (by kernel_rfl) (G.no B (x := "tuple") (by kernel_rfl)) (by rfl)) ra_nil))) (re_one (re_cmp (o_eq hX.toIn) (re_callB hX.toIn (x := "len") (id := "len") c_len (by kernel_rfl) (G.no B (x := "len") (by kernel_rfl)) (by rfl) (ra_cons (re_var hX.toIn (by kernel_rfl)) ra_nil)) (re_var hX.toIn (by kernel_rfl)) (nomark _))))))
theorem c_is_long (hh : HH K mg) (B : Bn mg) : Cl P w K mg base 1 "is_long" ["thing", "length"] f_is_long := by
  obtain ⟨a, fd, F, hm⟩ := hh.F_is_long
  exact cl_of (N := N_is_long) F hm (by kernel_rfl) (fun _ _ _ _ _ _ us hl => match us, hl with | [_, _], _ => rfl) (fun _ _ _ _ _ _ us hl => match us, hl with | [_, _], _ => rfl) fun X hX G hr => d_is_long hh B hX G hr
def N_tupled : List Str := ["value", "own"]
def m_tupled (self : FX) : SX :=
  (sRet (frE [0] (eIf (tTru (eCall (f2 gIsi) (aCons (evar 0) (aCons (eTup (aCons (cst (.ty "list")) (aCons (cst (.ty "tuple")) aNil))) aNil)))) (eCall (f1 gTuple) (aCons (eComp (iOf (evar 0)) (.nm 1) tYesM (frE [1] (eCall (callM self) (aCons (evar 1) aNil))) [1]) aNil)) (evar 0))))
def f_tupled : Nat → FX
  | 0 => fun _ _ => .err
  | n + 1 => mkFn 2 1 (m_tupled (f_tupled n))
theorem ar_tupled : ∀ n, Ar 1 (f_tupled n)
  | 0 => fun _ _ _ _ h => nomatch h
  | n + 1 => ar_mk
theorem d_tupled (hh : HH K mg) (B : Bn mg) {self : FX} {j : Nat} (cself : Cl P w K mg base (0 + j) "tupled" ["value"] self) (arself : Ar 1 self) (hX : InF X N_tupled (defScope s_tupled)) (G : Gx X P w K mg base) (hr : Room (0 + j) X.A) : RSs X (defBody s_tupled) (m_tupled self) :=
  (rss_one (rs_ret (re_fr [0] (re_if (rt_tru (re_callB hX.toIn (x := "isinstance") (id := "isinstance") c_isi (by kernel_rfl) (G.no B (x := "isinstance") (by kernel_rfl)) (by rfl) (ra_cons (re_var hX.toIn (by kernel_rfl)) (ra_cons (re_tup (ra_cons (re_type hX.toIn (x := "list") (by kernel_rfl) (G.no B (x := "list") (by kernel_rfl)) (by rfl)) (ra_cons (re_type hX.toIn (x := "tuple") (by kernel_rfl) (G.no B (x := "tuple") (by kernel_rfl)) (by rfl)) ra_nil))) ra_nil)))) (re_callTy hX.toIn (x := "tuple") (T := "tuple") c_tuple (by kernel_rfl) (G.no B (x := "tuple") (by kernel_rfl)) (by rfl) (ra_cons (re_comp hX.toIn (own := [("own", 1)]) (p := (.nm 1)) (t := tYesM) (ri_of (re_var hX.toIn (by kernel_rfl))) (by kernel_rfl) (by rfl) (fun _ _ _ _ _ => (rg_name (hX.toIn.loB (by kernel_rfl)))) (fun _ _ _ _ _ => rts_none) (fun _ _ _ _ _ => (re_fr [1] (re_call hX.toIn.blk G.blk cself arself hr (by first | decide | omega) (by kernel_rfl) (ra_cons (re_var hX.toIn.blk (by kernel_rfl)) ra_nil))))) ra_nil)) (re_var hX.toIn (by kernel_rfl))))))
theorem c_tupled (hh : HH K mg) (B : Bn mg) : ∀ n, Cl P w K mg base (0 + n) "tupled" ["value"] (f_tupled n)
  | 0 => by
    obtain ⟨a, fd, F, hm⟩ := hh.F_tupled
    exact (cl_err F hm (fun _ _ _ _ _ _ us hl => match us, hl with | [_], _ => rfl) (fun _ _ _ _ _ _ us hl => match us, hl with | [_], _ => rfl)).mono (Nat.zero_le _)
  | n + 1 => by
    obtain ⟨a, fd, F, hm⟩ := hh.F_tupled
    exact cl_of (N := N_tupled) F hm (by kernel_rfl) (fun _ _ _ _ _ _ us hl => match us, hl with | [_], _ => rfl) (fun _ _ _ _ _ _ us hl => match us, hl with | [_], _ => rfl) fun X hX G hr => d_tupled hh B (c_tupled hh B n) (ar_tupled n) hX G hr
def N_power_of : List Str := ["base", "times", "found", "lap"]
def m_power_of : SX :=
  (sSeq (sPat (.nm 2) (cst (.int 1)))
  (sSeq (sFor (iRange (aCons (evar 1) aNil)) (.nm 3) (sPat (.nm 2) (eBin fMul (evar 2) (evar 0))))
  (sRet (evar 2))))
def f_power_of : FX := mkFn 4 2 m_power_of
theorem ar_power_of : Ar 2 f_power_of := ar_mk
theorem d_power_of (hh : HH K mg) (B : Bn mg) (hX : InF X N_power_of (defScope s_power_of)) (G : Gx X P w K mg base) (hr : Room 0 X.A) : RSs X (defBody s_power_of) m_power_of :=
  (rss_cons (rs_set (hX.lo (by kernel_rfl)) re_int)
  (rss_cons (rs_for hX.toIn (ri_range1 hX.toIn (by kernel_rfl) (G.no B (x := "range") (by kernel_rfl)) (re_var hX.toIn (by kernel_rfl))) (rg_name (hX.lo (by kernel_rfl))) (rss_one (rs_set (hX.lo (by kernel_rfl)) (re_op o_mul (re_var hX.toIn (by kernel_rfl)) (re_var hX.toIn (by kernel_rfl))))))
  (rss_one (rs_ret (re_var hX.toIn (by kernel_rfl))))))
theorem c_power_of (hh : HH K mg) (B : Bn mg) : Cl P w K mg base 1 "power_of" ["base", "times"] f_power_of := by
  obtain ⟨a, fd, F, hm⟩ := hh.F_power_of
  exact cl_of (N := N_power_of) F hm (by kernel_rfl) (fun _ _ _ _ _ _ us hl => match us, hl with | [_, _], _ => rfl) (fun _ _ _ _ _ _ us hl => match us, hl with | [_, _], _ => rfl) fun X hX G hr => d_power_of hh B hX G hr
def N_is_fraction : List Str := ["thing"]
def m_is_fraction : SX :=
  (sSeq (sIf (frT [0] (tOrM (tNotM (tTru (eCall (callM f_is_long) (aCons (evar 0) (aCons (cst (.int 2)) aNil))))) (tOrM (tNotM (tTru (eCall (callM f_is_number) (aCons (eBin fIx (evar 0) (cst (.int 0))) aNil)))) (tNotM (tTru (eCall (callM f_is_from) (aCons (eBin fIx (evar 0) (cst (.int 1))) (aCons (cst (.int 1)) aNil)))))))) (sRet (cst (.bl false))) sNil)
  (sRet (frE [0] (eBin (fEq false) (eCall (f2 gGcd) (aCons (eBin fIx (evar 0) (cst (.int 0))) (aCons (eBin fIx (evar 0) (cst (.int 1))) aNil))) (cst (.int 1))))))
def f_is_fraction : FX := mkFn 1 1 m_is_fraction
theorem ar_is_fraction : Ar 1 f_is_fraction := ar_mk
theorem d_is_fraction (hh : HH K mg) (B : Bn mg) (hX : InF X N_is_fraction (defScope s_is_fraction)) (G : Gx X P w K mg base) (hr : Room 2 X.A) : RSs X (defBody s_is_fraction) m_is_fraction :=
  (rss_cons (rs_if (rt_fr [0] (PW.pt (rw_or (rt_not (rt_tru (re_call hX.toIn G (c_is_long (base := base) (w := w) hh B) ar_is_long hr (by first | decide | omega) (by kernel_rfl) (ra_cons (re_var hX.toIn (by kernel_rfl)) (ra_cons re_int ra_nil))))) (rw_or (rt_not (rt_tru (re_call hX.toIn G (c_is_number (base := base) (w := w) hh B) ar_is_number hr (by first | decide | omega) (by kernel_rfl) (ra_cons (re_ix (re_var hX.toIn (by kernel_rfl)) re_int) ra_nil)))) (rw_or1 (rt_not (rt_tru (re_call hX.toIn G (c_is_from (base := base) (w := w) hh B) ar_is_from hr (by first | decide | omega) (by kernel_rfl) (ra_cons (re_ix (re_var hX.toIn (by kernel_rfl)) re_int) (ra_cons re_int ra_nil)))))))))) (rss_one (rs_ret re_bl)) rss_nil)
  (rss_one (rs_ret (re_fr [0] (re_cmp (o_eq hX.toIn) (re_callBfun hX.toIn (x := "gcd") (id := "math.gcd") c_gcd (by kernel_rfl) (G.gm hh.gcd) (ra_cons (re_ix (re_var hX.toIn (by kernel_rfl)) re_int) (ra_cons (re_ix (re_var hX.toIn (by kernel_rfl)) re_int) ra_nil))) re_int (nomark _))))))
theorem c_is_fraction (hh : HH K mg) (B : Bn mg) : Cl P w K mg base 3 "is_fraction" ["thing"] f_is_fraction := by
  obtain ⟨a, fd, F, hm⟩ := hh.F_is_fraction
  exact cl_of (N := N_is_fraction) F hm (by kernel_rfl) (fun _ _ _ _ _ _ us hl => match us, hl with | [_], _ => rfl) (fun _ _ _ _ _ _ us hl => match us, hl with | [_], _ => rfl) fun X hX G hr => d_is_fraction hh B hX G hr
def N_lowest : List Str := ["top", "bottom", "shared"]
def m_lowest : SX :=
  (sSeq (sPat (.nm 2) (frE [0, 1] (eBin fMul (eCall (f2 gGcd) (aCons (evar 0) (aCons (evar 1) aNil))) (eIf (tBl (eBin (fCmp gtI) (evar 1) (cst (.int 0)))) (cst (.int 1)) (eUn fNeg (cst (.int 1)))))))
  (sRet (eTup (aCons (eBin fDiv (evar 0) (evar 2)) (aCons (eBin fDiv (evar 1) (evar 2)) aNil)))))
def f_lowest : FX := mkFn 3 2 m_lowest
theorem ar_lowest : Ar 2 f_lowest := ar_mk
theorem d_lowest (hh : HH K mg) (B : Bn mg) (hX : InF X N_lowest (defScope s_lowest)) (G : Gx X P w K mg base) (hr : Room 0 X.A) : RSs X (defBody s_lowest) m_lowest :=
  (rss_cons (rs_set (hX.lo (by kernel_rfl)) (re_fr [0, 1] (re_op o_mul (re_callBfun hX.toIn (x := "gcd") (id := "math.gcd") c_gcd (by kernel_rfl) (G.gm hh.gcd) (ra_cons (re_var hX.toIn (by kernel_rfl)) (ra_cons (re_var hX.toIn (by kernel_rfl)) ra_nil))) (re_if (rt_cmp o_gt (re_var hX.toIn (by kernel_rfl)) re_int (nomark _)) re_int (re_un o_neg re_int)))))
  (rss_one (rs_ret (re_tup (ra_cons (re_op o_div (re_var hX.toIn (by kernel_rfl)) (re_var hX.toIn (by kernel_rfl))) (ra_cons (re_op o_div (re_var hX.toIn (by kernel_rfl)) (re_var hX.toIn (by kernel_rfl))) ra_nil))))))
theorem c_lowest (hh : HH K mg) (B : Bn mg) : Cl P w K mg base 1 "lowest" ["top", "bottom"] f_lowest := by
  obtain ⟨a, fd, F, hm⟩ := hh.F_lowest
  exact cl_of (N := N_lowest) F hm (by kernel_rfl) (fun _ _ _ _ _ _ us hl => match us, hl with | [_, _], _ => rfl) (fun _ _ _ _ _ _ us hl => match us, hl with | [_, _], _ => rfl) fun X hX G hr => d_lowest hh B hX G hr
def N_sure_fraction : List Str := ["value", "own"]
def m_sure_fraction : SX :=
  (sSeq (sPat (.nm 1) (frE [0] (eCall (callM (f_tupled 8)) (aCons (evar 0) aNil))))
  (sSeq (sIf (frT [1] (tNotM (tTru (eCall (callM f_is_fraction) (aCons (evar 1) aNil))))) sErr sNil)
  (sRet (evar 1))))
def f_sure_fraction : FX := mkFn 2 1 m_sure_fraction
theorem ar_sure_fraction : Ar 1 f_sure_fraction := ar_mk
theorem d_sure_fraction (hh : HH K mg) (B : Bn mg) (hX : InF X N_sure_fraction (defScope s_sure_fraction)) (G : Gx X P w K mg base) (hr : Room 9 X.A) : RSs X (defBody s_sure_fraction) m_sure_fraction :=
  (rss_cons (rs_set (hX.lo (by kernel_rfl)) (re_fr [0] (re_call hX.toIn G (c_tupled (base := base) (w := w) hh B 8) (ar_tupled 8) hr (by first | decide | omega) (by kernel_rfl) (ra_cons (re_var hX.toIn (by kernel_rfl)) ra_nil))))
  (rss_cons (rs_if (rt_fr [1] (rt_not (rt_tru (re_call hX.toIn G (c_is_fraction (base := base) (w := w) hh B) ar_is_fraction hr (by first | decide | omega) (by kernel_rfl) (ra_cons (re_var hX.toIn (by kernel_rfl)) ra_nil))))) (rss_one rs_err) rss_nil)
  (rss_one (rs_ret (re_var hX.toIn (by kernel_rfl))))))
theorem c_sure_fraction (hh : HH K mg) (B : Bn mg) : Cl P w K mg base 10 "sure_fraction" ["value"] f_sure_fraction := by
  obtain ⟨a, fd, F, hm⟩ := hh.F_sure_fraction
  exact cl_of (N := N_sure_fraction) F hm (by kernel_rfl) (fun _ _ _ _ _ _ us hl => match us, hl with | [_], _ => rfl) (fun _ _ _ _ _ _ us hl => match us, hl with | [_], _ => rfl) fun X hX G hr => d_sure_fraction hh B hX G hr
def N_added : List Str := ["one", "other"]
def m_added : SX :=
  (sRet (frE [0, 1] (eCall (callM f_lowest) (aCons (eBin fAdd (eBin fMul (eBin fIx (evar 0) (cst (.int 0))) (eBin fIx (evar 1) (cst (.int 1)))) (eBin fMul (eBin fIx (evar 1) (cst (.int 0))) (eBin fIx (evar 0) (cst (.int 1))))) (aCons (eBin fMul (eBin fIx (evar 0) (cst (.int 1))) (eBin fIx (evar 1) (cst (.int 1)))) aNil)))))
def f_added : FX := mkFn 2 2 m_added
theorem ar_added : Ar 2 f_added := ar_mk
theorem d_added (hh : HH K mg) (B : Bn mg) (hX : InF X N_added (defScope s_added)) (G : Gx X P w K mg base) (hr : Room 1 X.A) : RSs X (defBody s_added) m_added :=
  (rss_one (rs_ret (re_fr [0, 1] (re_call hX.toIn G (c_lowest (base := base) (w := w) hh B) ar_lowest hr (by first | decide | omega) (by kernel_rfl) (ra_cons (re_op o_add (re_op o_mul (re_ix (re_var hX.toIn (by kernel_rfl)) re_int) (re_ix (re_var hX.toIn (by kernel_rfl)) re_int)) (re_op o_mul (re_ix (re_var hX.toIn (by kernel_rfl)) re_int) (re_ix (re_var hX.toIn (by kernel_rfl)) re_int))) (ra_cons (re_op o_mul (re_ix (re_var hX.toIn (by kernel_rfl)) re_int) (re_ix (re_var hX.toIn (by kernel_rfl)) re_int)) ra_nil))))))
theorem c_added (hh : HH K mg) (B : Bn mg) : Cl P w K mg base 2 "added" ["one", "other"] f_added := by
  obtain ⟨a, fd, F, hm⟩ := hh.F_added
  exact cl_of (N := N_added) F hm (by kernel_rfl) (fun _ _ _ _ _ _ us hl => match us, hl with | [_, _], _ => rfl) (fun _ _ _ _ _ _ us hl => match us, hl with | [_, _], _ => rfl) fun X hX G hr => d_added hh B hX G hr
def N_times : List Str := ["one", "other"]
def m_times : SX :=
  (sRet (frE [0, 1] (eCall (callM f_lowest) (aCons (eBin fMul (eBin fIx (evar 0) (cst (.int 0))) (eBin fIx (evar 1) (cst (.int 0)))) (aCons (eBin fMul (eBin fIx (evar 0) (cst (.int 1))) (eBin fIx (evar 1) (cst (.int 1)))) aNil)))))
def f_times : FX := mkFn 2 2 m_times
theorem ar_times : Ar 2 f_times := ar_mk
theorem d_times (hh : HH K mg) (B : Bn mg) (hX : InF X N_times (defScope s_times)) (G : Gx X P w K mg base) (hr : Room 1 X.A) : RSs X (defBody s_times) m_times :=
  (rss_one (rs_ret (re_fr [0, 1] (re_call hX.toIn G (c_lowest (base := base) (w := w) hh B) ar_lowest hr (by first | decide | omega) (by kernel_rfl) (ra_cons (re_op o_mul (re_ix (re_var hX.toIn (by kernel_rfl)) re_int) (re_ix (re_var hX.toIn (by kernel_rfl)) re_int)) (ra_cons (re_op o_mul (re_ix (re_var hX.toIn (by kernel_rfl)) re_int) (re_ix (re_var hX.toIn (by kernel_rfl)) re_int)) ra_nil))))))
theorem c_times (hh : HH K mg) (B : Bn mg) : Cl P w K mg base 2 "times" ["one", "other"] f_times := by
  obtain ⟨a, fd, F, hm⟩ := hh.F_times
  exact cl_of (N := N_times) F hm (by kernel_rfl) (fun _ _ _ _ _ _ us hl => match us, hl with | [_, _], _ => rfl) (fun _ _ _ _ _ _ us hl => match us, hl with | [_, _], _ => rfl) fun X hX G hr => d_times hh B hX G hr
def N_over : List Str := ["one", "other"]
def m_over : SX :=
  (sRet (frE [0, 1] (eCall (callM f_lowest) (aCons (eBin fMul (eBin fIx (evar 0) (cst (.int 0))) (eBin fIx (evar 1) (cst (.int 1)))) (aCons (eBin fMul (eBin fIx (evar 0) (cst (.int 1))) (eBin fIx (evar 1) (cst (.int 0)))) aNil)))))
def f_over : FX := mkFn 2 2 m_over
theorem ar_over : Ar 2 f_over := ar_mk
theorem d_over (hh : HH K mg) (B : Bn mg) (hX : InF X N_over (defScope s_over)) (G : Gx X P w K mg base) (hr : Room 1 X.A) : RSs X (defBody s_over) m_over :=
  (rss_one (rs_ret (re_fr [0, 1] (re_call hX.toIn G (c_lowest (base := base) (w := w) hh B) ar_lowest hr (by first | decide | omega) (by kernel_rfl) (ra_cons (re_op o_mul (re_ix (re_var hX.toIn (by kernel_rfl)) re_int) (re_ix (re_var hX.toIn (by kernel_rfl)) re_int)) (ra_cons (re_op o_mul (re_ix (re_var hX.toIn (by kernel_rfl)) re_int) (re_ix (re_var hX.toIn (by kernel_rfl)) re_int)) ra_nil))))))
theorem c_over (hh : HH K mg) (B : Bn mg) : Cl P w K mg base 2 "over" ["one", "other"] f_over := by
  obtain ⟨a, fd, F, hm⟩ := hh.F_over
  exact cl_of (N := N_over) F hm (by kernel_rfl) (fun _ _ _ _ _ _ us hl => match us, hl with | [_, _], _ => rfl) (fun _ _ _ _ _ _ us hl => match us, hl with | [_, _], _ => rfl) fun X hX G hr => d_over hh B hX G hr
def N_power : List Str := ["one", "many"]
def m_power (self : FX) : SX :=
  (sSeq (sIf (tBl (eBin (fCmp ltI) (evar 1) (cst (.int 0)))) (sRet (frE [0, 1] (eCall (callM f_over) (aCons (cst (.tup [.int 1, .int 1])) (aCons (eCall (callM self) (aCons (evar 0) (aCons (eBin fSub (cst (.int 0)) (evar 1)) aNil))) aNil))))) sNil)
  (sRet (frE [0, 1] (eTup (aCons (eCall (callM f_power_of) (aCons (eBin fIx (evar 0) (cst (.int 0))) (aCons (evar 1) aNil))) (aCons (eCall (callM f_power_of) (aCons (eBin fIx (evar 0) (cst (.int 1))) (aCons (evar 1) aNil))) aNil))))))
def f_power : Nat → FX
  | 0 => fun _ _ => .err
  | n + 1 => mkFn 2 2 (m_power (f_power n))
theorem ar_power : ∀ n, Ar 2 (f_power n)
  | 0 => fun _ _ _ _ h => nomatch h
  | n + 1 => ar_mk
theorem d_power (hh : HH K mg) (B : Bn mg) {self : FX} {j : Nat} (cself : Cl P w K mg base (2 + j) "power" ["one", "many"] self) (arself : Ar 2 self) (hX : InF X N_power (defScope s_power)) (G : Gx X P w K mg base) (hr : Room (2 + j) X.A) : RSs X (defBody s_power) (m_power self) :=
  (rss_cons (rs_if (rt_cmp o_lt (re_var hX.toIn (by kernel_rfl)) re_int (nomark _)) (rss_one (rs_ret (re_fr [0, 1] (re_call hX.toIn G (c_over (base := base) (w := w) hh B) ar_over hr (by first | decide | omega) (by kernel_rfl) (ra_cons (re_globT hX.toIn G (by kernel_rfl) hh.c_ONE (fun _ _ _ => .cons (.int 1) (.cons (.int 1) (.nil))) (by decide)) (ra_cons (re_call hX.toIn G cself arself hr (by first | decide | omega) (by kernel_rfl) (ra_cons (re_var hX.toIn (by kernel_rfl)) (ra_cons (re_op o_sub re_int (re_var hX.toIn (by kernel_rfl))) ra_nil))) ra_nil)))))) rss_nil)
  (rss_one (rs_ret (re_fr [0, 1] (re_tup (ra_cons (re_call hX.toIn G (c_power_of (base := base) (w := w) hh B) ar_power_of hr (by first | decide | omega) (by kernel_rfl) (ra_cons (re_ix (re_var hX.toIn (by kernel_rfl)) re_int) (ra_cons (re_var hX.toIn (by kernel_rfl)) ra_nil))) (ra_cons (re_call hX.toIn G (c_power_of (base := base) (w := w) hh B) ar_power_of hr (by first | decide | omega) (by kernel_rfl) (ra_cons (re_ix (re_var hX.toIn (by kernel_rfl)) re_int) (ra_cons (re_var hX.toIn (by kernel_rfl)) ra_nil))) ra_nil)))))))
theorem c_power (hh : HH K mg) (B : Bn mg) : ∀ n, Cl P w K mg base (2 + n) "power" ["one", "many"] (f_power n)
  | 0 => by
    obtain ⟨a, fd, F, hm⟩ := hh.F_power
    exact (cl_err F hm (fun _ _ _ _ _ _ us hl => match us, hl with | [_, _], _ => rfl) (fun _ _ _ _ _ _ us hl => match us, hl with | [_, _], _ => rfl)).mono (Nat.zero_le _)
  | n + 1 => by
    obtain ⟨a, fd, F, hm⟩ := hh.F_power
    exact cl_of (N := N_power) F hm (by kernel_rfl) (fun _ _ _ _ _ _ us hl => match us, hl with | [_, _], _ => rfl) (fun _ _ _ _ _ _ us hl => match us, hl with | [_, _], _ => rfl) fun X hX G hr => d_power hh B (c_power hh B n) (ar_power n) hX G hr
def N_fraction : List Str := ["top", "bottom"]
def m_fraction : SX :=
  (sSeq (sIf (frT [0, 1] (tOrM (tNotM (tTru (eCall (callM f_is_number) (aCons (evar 0) aNil)))) (tNotM (tTru (eCall (callM f_is_number) (aCons (evar 1) aNil)))))) sErr sNil)
  (sSeq (sIf (tBl (eBin (fEq false) (evar 1) (cst (.int 0)))) sErr sNil)
  (sRet (frE [0, 1] (eCall (callM f_lowest) (aCons (evar 0) (aCons (evar 1) aNil)))))))
def f_fraction : FX := mkFn 2 2 m_fraction
theorem ar_fraction : Ar 2 f_fraction := ar_mk
theorem d_fraction (hh : HH K mg) (B : Bn mg) (hX : InF X N_fraction (defScope s_fraction)) (G : Gx X P w K mg base) (hr : Room 1 X.A) : RSs X (defBody s_fraction) m_fraction :=
  (rss_cons (rs_if (rt_fr [0, 1] (PW.pt (rw_or (rt_not (rt_tru (re_call hX.toIn G (c_is_number (base := base) (w := w) hh B) ar_is_number hr (by first | decide | omega) (by kernel_rfl) (ra_cons (re_var hX.toIn (by kernel_rfl)) ra_nil)))) (rw_or1 (rt_not (rt_tru (re_call hX.toIn G (c_is_number (base := base) (w := w) hh B) ar_is_number hr (by first | decide | omega) (by kernel_rfl) (ra_cons (re_var hX.toIn (by kernel_rfl)) ra_nil)))))))) (rss_one rs_err) rss_nil)
  (rss_cons (rs_if (rt_cmp (o_eq hX.toIn) (re_var hX.toIn (by kernel_rfl)) re_int (nomark _)) (rss_one rs_err) rss_nil)
  (rss_one (rs_ret (re_fr [0, 1] (re_call hX.toIn G (c_lowest (base := base) (w := w) hh B) ar_lowest hr (by first | decide | omega) (by kernel_rfl) (ra_cons (re_var hX.toIn (by kernel_rfl)) (ra_cons (re_var hX.toIn (by kernel_rfl)) ra_nil))))))))
theorem c_fraction (hh : HH K mg) (B : Bn mg) : Cl P w K mg base 2 "fraction" ["top", "bottom"] f_fraction := by
  obtain ⟨a, fd, F, hm⟩ := hh.F_fraction
  exact cl_of (N := N_fraction) F hm (by kernel_rfl) (fun _ _ _ _ _ _ us hl => match us, hl with | [_, _], _ => rfl) (fun _ _ _ _ _ _ us hl => match us, hl with | [_, _], _ => rfl) fun X hX G hr => d_fraction hh B hX G hr
def N_fraction_sum : List Str := ["one", "other"]
def m_fraction_sum : SX :=
  (sRet (frE [0, 1] (eCall (callM f_added) (aCons (eCall (callM f_sure_fraction) (aCons (evar 0) aNil)) (aCons (eCall (callM f_sure_fraction) (aCons (evar 1) aNil)) aNil)))))
def f_fraction_sum : FX := mkFn 2 2 m_fraction_sum
theorem ar_fraction_sum : Ar 2 f_fraction_sum := ar_mk
theorem d_fraction_sum (hh : HH K mg) (B : Bn mg) (hX : InF X N_fraction_sum (defScope s_fraction_sum)) (G : Gx X P w K mg base) (hr : Room 10 X.A) : RSs X (defBody s_fraction_sum) m_fraction_sum :=
  (rss_one (rs_ret (re_fr [0, 1] (re_call hX.toIn G (c_added (base := base) (w := w) hh B) ar_added hr (by first | decide | omega) (by kernel_rfl) (ra_cons (re_call hX.toIn G (c_sure_fraction (base := base) (w := w) hh B) ar_sure_fraction hr (by first | decide | omega) (by kernel_rfl) (ra_cons (re_var hX.toIn (by kernel_rfl)) ra_nil)) (ra_cons (re_call hX.toIn G (c_sure_fraction (base := base) (w := w) hh B) ar_sure_fraction hr (by first | decide | omega) (by kernel_rfl) (ra_cons (re_var hX.toIn (by kernel_rfl)) ra_nil)) ra_nil))))))
theorem c_fraction_sum (hh : HH K mg) (B : Bn mg) : Cl P w K mg base 11 "fraction_sum" ["one", "other"] f_fraction_sum := by
  obtain ⟨a, fd, F, hm⟩ := hh.F_fraction_sum
  exact cl_of (N := N_fraction_sum) F hm (by kernel_rfl) (fun _ _ _ _ _ _ us hl => match us, hl with | [_, _], _ => rfl) (fun _ _ _ _ _ _ us hl => match us, hl with | [_, _], _ => rfl) fun X hX G hr => d_fraction_sum hh B hX G hr
def N_fraction_product : List Str := ["one", "other"]
def m_fraction_product : SX :=
  (sRet (frE [0, 1] (eCall (callM f_times) (aCons (eCall (callM f_sure_fraction) (aCons (evar 0) aNil)) (aCons (eCall (callM f_sure_fraction) (aCons (evar 1) aNil)) aNil)))))
def f_fraction_product : FX := mkFn 2 2 m_fraction_product
theorem ar_fraction_product : Ar 2 f_fraction_product := ar_mk
theorem d_fraction_product (hh : HH K mg) (B : Bn mg) (hX : InF X N_fraction_product (defScope s_fraction_product)) (G : Gx X P w K mg base) (hr : Room 10 X.A) : RSs X (defBody s_fraction_product) m_fraction_product :=
  (rss_one (rs_ret (re_fr [0, 1] (re_call hX.toIn G (c_times (base := base) (w := w) hh B) ar_times hr (by first | decide | omega) (by kernel_rfl) (ra_cons (re_call hX.toIn G (c_sure_fraction (base := base) (w := w) hh B) ar_sure_fraction hr (by first | decide | omega) (by kernel_rfl) (ra_cons (re_var hX.toIn (by kernel_rfl)) ra_nil)) (ra_cons (re_call hX.toIn G (c_sure_fraction (base := base) (w := w) hh B) ar_sure_fraction hr (by first | decide | omega) (by kernel_rfl) (ra_cons (re_var hX.toIn (by kernel_rfl)) ra_nil)) ra_nil))))))
theorem c_fraction_product (hh : HH K mg) (B : Bn mg) : Cl P w K mg base 11 "fraction_product" ["one", "other"] f_fraction_product := by
  obtain ⟨a, fd, F, hm⟩ := hh.F_fraction_product
  exact cl_of (N := N_fraction_product) F hm (by kernel_rfl) (fun _ _ _ _ _ _ us hl => match us, hl with | [_, _], _ => rfl) (fun _ _ _ _ _ _ us hl => match us, hl with | [_, _], _ => rfl) fun X hX G hr => d_fraction_product hh B hX G hr
def N_fraction_over : List Str := ["one", "other", "near", "far"]
def m_fraction_over : SX :=
  (sSeq (sPar 2 3 (aCons (eCall (callM f_sure_fraction) (aCons (evar 0) aNil)) (aCons (eCall (callM f_sure_fraction) (aCons (evar 1) aNil)) aNil)))
  (sSeq (sIf (tBl (eBin (fEq false) (evar 3) (cst (.tup [.int 0, .int 1])))) sErr sNil)
  (sRet (frE [2, 3] (eCall (callM f_over) (aCons (evar 2) (aCons (evar 3) aNil)))))))
def f_fraction_over : FX := mkFn 4 2 m_fraction_over
theorem ar_fraction_over : Ar 2 f_fraction_over := ar_mk
theorem d_fraction_over (hh : HH K mg) (B : Bn mg) (hX : InF X N_fraction_over (defScope s_fraction_over)) (G : Gx X P w K mg base) (hr : Room 10 X.A) : RSs X (defBody s_fraction_over) m_fraction_over :=
  (rss_cons (rs_par hX.toIn (by kernel_rfl) (by kernel_rfl) (by rfl) (by kernel_rfl) (by kernel_rfl) (ra_cons (re_call hX.toIn G (c_sure_fraction (base := base) (w := w) hh B) ar_sure_fraction hr (by first | decide | omega) (by kernel_rfl) (ra_cons (re_var hX.toIn (by kernel_rfl)) ra_nil)) (ra_cons (re_call hX.toIn G (c_sure_fraction (base := base) (w := w) hh B) ar_sure_fraction hr (by first | decide | omega) (by kernel_rfl) (ra_cons (re_var hX.toIn (by kernel_rfl)) ra_nil)) ra_nil)) (by intro env he; cases env; cases he; rfl))
  (rss_cons (rs_if (rt_cmp (o_eq hX.toIn) (re_var hX.toIn (by kernel_rfl)) (re_globT hX.toIn G (by kernel_rfl) hh.c_NOUGHT (fun _ _ _ => .cons (.int 0) (.cons (.int 1) (.nil))) (by decide)) (nomark _)) (rss_one rs_err) rss_nil)
  (rss_one (rs_ret (re_fr [2, 3] (re_call hX.toIn G (c_over (base := base) (w := w) hh B) ar_over hr (by first | decide | omega) (by kernel_rfl) (ra_cons (re_var hX.toIn (by kernel_rfl)) (ra_cons (re_var hX.toIn (by kernel_rfl)) ra_nil))))))))
theorem c_fraction_over (hh : HH K mg) (B : Bn mg) : Cl P w K mg base 11 "fraction_over" ["one", "other"] f_fraction_over := by
  obtain ⟨a, fd, F, hm⟩ := hh.F_fraction_over
  exact cl_of (N := N_fraction_over) F hm (by kernel_rfl) (fun _ _ _ _ _ _ us hl => match us, hl with | [_, _], _ => rfl) (fun _ _ _ _ _ _ us hl => match us, hl with | [_, _], _ => rfl) fun X hX G hr => d_fraction_over hh B hX G hr
def N_fraction_power : List Str := ["one", "many", "own"]
def m_fraction_power : SX :=
  (sSeq (sPat (.nm 2) (frE [0] (eCall (callM f_sure_fraction) (aCons (evar 0) aNil))))
  (sSeq (sIf (frT [1] (tOrM (tNotM (tTru (eCall (callM f_is_from) (aCons (evar 1) (aCons (cst (.int 0)) aNil))))) (tBl (eBin (fCmp gtI) (evar 1) (cst (.int 1000)))))) sErr sNil)
  (sRet (frE [1, 2] (eCall (callM (f_power 8)) (aCons (evar 2) (aCons (evar 1) aNil)))))))
def f_fraction_power : FX := mkFn 3 2 m_fraction_power
theorem ar_fraction_power : Ar 2 f_fraction_power := ar_mk
theorem d_fraction_power (hh : HH K mg) (B : Bn mg) (hX : InF X N_fraction_power (defScope s_fraction_power)) (G : Gx X P w K mg base) (hr : Room 11 X.A) : RSs X (defBody s_fraction_power) m_fraction_power :=
  (rss_cons (rs_set (hX.lo (by kernel_rfl)) (re_fr [0] (re_call hX.toIn G (c_sure_fraction (base := base) (w := w) hh B) ar_sure_fraction hr (by first | decide | omega) (by kernel_rfl) (ra_cons (re_var hX.toIn (by kernel_rfl)) ra_nil))))
  (rss_cons (rs_if (rt_fr [1] (PW.pt (rw_or (rt_not (rt_tru (re_call hX.toIn G (c_is_from (base := base) (w := w) hh B) ar_is_from hr (by first | decide | omega) (by kernel_rfl) (ra_cons (re_var hX.toIn (by kernel_rfl)) (ra_cons re_int ra_nil))))) (rw_or1 (rt_cmp o_gt (re_var hX.toIn (by kernel_rfl)) (re_globI hX.toIn G (by kernel_rfl) hh.c_MOST_POWER (by decide)) (nomark _)))))) (rss_one rs_err) rss_nil)
  (rss_one (rs_ret (re_fr [1, 2] (re_call hX.toIn G (c_power (base := base) (w := w) hh B 8) (ar_power 8) hr (by first | decide | omega) (by kernel_rfl) (ra_cons (re_var hX.toIn (by kernel_rfl)) (ra_cons (re_var hX.toIn (by kernel_rfl)) ra_nil))))))))
theorem c_fraction_power (hh : HH K mg) (B : Bn mg) : Cl P w K mg base 12 "fraction_power" ["one", "many"] f_fraction_power := by
  obtain ⟨a, fd, F, hm⟩ := hh.F_fraction_power
  exact cl_of (N := N_fraction_power) F hm (by kernel_rfl) (fun _ _ _ _ _ _ us hl => match us, hl with | [_, _], _ => rfl) (fun _ _ _ _ _ _ us hl => match us, hl with | [_, _], _ => rfl) fun X hX G hr => d_fraction_power hh B hX G hr
def N__law_box : List Str := ["script", "k", "bit_so"]
def m__law_box : SX :=
  (sSeq (sPat (.nm 2) (eIf (tBl (eBin (fCmp ltI) (evar 1) (eCall (f1 gLen) (aCons (evar 0) aNil)))) (eBin fIx (evar 0) (evar 1)) (cst (.int 0))))
  (sRet (frE [1, 2] (eLst (aCons (eBin fMul (eCall (f1 gAbs) (aCons (evar 2) aNil)) (eCall (f1 gInt) (aCons (eBin (fCmp geI) (eCall (f1 gAbs) (aCons (evar 2) aNil)) (eBin fPow (cst (.int 10)) (cst (.int 18)))) aNil))) (aCons (eBin fAdd (eBin fAdd (eBin fMod (eCall (f1 gInt) (aCons (evar 2) aNil)) (cst (.int 2305843009213693951))) (eBin fMul (cst (.int 39373)) (evar 1))) (cst (.int 9172084))) (aCons (cst (.int 0)) aNil)))))))
def f__law_box : FX := mkFn 3 2 m__law_box
theorem ar__law_box : Ar 2 f__law_box := ar_mk
theorem d__law_box (hh : HH K mg) (B : Bn mg) (hX : InF X N__law_box (defScope s__law_box)) (G : Gx X P w K mg base) (hr : Room 0 X.A) : RSs X (defBody s__law_box) m__law_box :=
  (rss_cons (rs_set (hX.lo (by kernel_rfl)) (re_if (rt_cmp o_lt (re_var hX.toIn (by kernel_rfl)) (re_callB hX.toIn (x := "len") (id := "len") c_len (by kernel_rfl) (G.no B (x := "len") (by kernel_rfl)) (by rfl) (ra_cons (re_var hX.toIn (by kernel_rfl)) ra_nil)) (nomark _)) (re_ix (re_var hX.toIn (by kernel_rfl)) (re_var hX.toIn (by kernel_rfl))) re_int))
  (rss_one (rs_ret (re_fr [1, 2] (re_lst (ra_cons (re_op o_mul (re_callB hX.toIn (x := "abs") (id := "abs") c_abs (by kernel_rfl) (G.no B (x := "abs") (by kernel_rfl)) (by rfl) (ra_cons (re_var hX.toIn (by kernel_rfl)) ra_nil)) (re_callTy hX.toIn (x := "int") (T := "int") c_int (by kernel_rfl) (G.no B (x := "int") (by kernel_rfl)) (by rfl) (ra_cons (re_cmp o_ge (re_callB hX.toIn (x := "abs") (id := "abs") c_abs (by kernel_rfl) (G.no B (x := "abs") (by kernel_rfl)) (by rfl) (ra_cons (re_var hX.toIn (by kernel_rfl)) ra_nil)) (re_op o_pow re_int re_int) (nomark _)) ra_nil))) (ra_cons (re_op o_add (re_op o_add (re_op o_mod (re_callTy hX.toIn (x := "int") (T := "int") c_int (by kernel_rfl) (G.no B (x := "int") (by kernel_rfl)) (by rfl) (ra_cons (re_var hX.toIn (by kernel_rfl)) ra_nil)) re_int) (re_op o_mul re_int (re_var hX.toIn (by kernel_rfl)))) re_int) (ra_cons re_int ra_nil))))))))
theorem c__law_box (hh : HH K mg) (B : Bn mg) : Cl P w K mg base 1 "_law_box" ["script", "k"] f__law_box := by
  obtain ⟨a, fd, F, hm⟩ := hh.F__law_box
  exact cl_of (N := N__law_box) F hm (by kernel_rfl) (fun _ _ _ _ _ _ us hl => match us, hl with | [_, _], _ => rfl) (fun _ _ _ _ _ _ us hl => match us, hl with | [_, _], _ => rfl) fun X hX G hr => d__law_box hh B hX G hr
def N__law_take : List Str := ["tin", "below_so", "drawn_so", "once_so", "wide_so", "twice_so"]
def m__law_take : SX :=
  (sSeq (sIf (tBl (eBin (fCmp gtI) (eBin fIx (evar 0) (cst (.int 0))) (cst (.int 0)))) (sSeq (sPat (.nm 2) (eBin fMod (eCall (f1 gInt) (aCons (eBin fIx (evar 0) (cst (.int 0))) aNil)) (evar 1)))
  (sSeq (sTg (.sub (evar 0) (cst (.int 0))) (eBin fDiv (eBin fIx (evar 0) (cst (.int 0))) (evar 1)))
  (sRet (evar 2)))) sNil)
  (sSeq (sTg (.sub (evar 0) (cst (.int 2))) (eBin fAdd (eBin fIx (evar 0) (cst (.int 2))) (cst (.int 1))))
  (sSeq (sPat (.nm 3) (eBin fMod (eCall (f1 gInt) (aCons (eBin fMul (eBin fAdd (eBin fIx (evar 0) (cst (.int 1))) (eBin fMul (cst (.int 48271)) (eBin fIx (evar 0) (cst (.int 2))))) (eBin fAdd (cst (.int 39373)) (eBin fIx (evar 0) (cst (.int 2))))) aNil)) (cst (.int 2147483647))))
  (sSeq (sPat (.nm 4) (eBin fAdd (eBin fMod (eCall (f1 gInt) (aCons (evar 3) aNil)) (cst (.int 40009))) (cst (.int 7))))
  (sSeq (sPat (.nm 5) (eBin fMod (eCall (f1 gInt) (aCons (eBin fMul (eBin fAdd (eBin fAdd (evar 3) (eBin fIx (evar 0) (cst (.int 2)))) (eBin fDiv (eBin fIx (evar 0) (cst (.int 1))) (cst (.int 1000003)))) (evar 4)) aNil)) (cst (.int 2147483629))))
  (sRet (eBin fMod (eCall (f1 gInt) (aCons (eBin fDiv (eBin fMod (eCall (f1 gInt) (aCons (eBin fAdd (eBin fMul (evar 5) (cst (.int 48271))) (evar 3)) aNil)) (cst (.int 2147483587))) (cst (.int 64))) aNil)) (evar 1))))))))
def f__law_take : FX := mkFn 6 2 m__law_take
theorem ar__law_take : Ar 2 f__law_take := ar_mk
theorem d__law_take (hh : HH K mg) (B : Bn mg) (hX : InF X N__law_take (defScope s__law_take)) (G : Gx X P w K mg base) (hr : Room 0 X.A) : RSs X (defBody s__law_take) m__law_take :=
  (rss_cons (rs_if (rt_cmp o_gt (re_ix (re_var hX.toIn (by kernel_rfl)) re_int) re_int (nomark _)) (rss_cons (rs_set (hX.lo (by kernel_rfl)) (re_op o_mod (re_callTy hX.toIn (x := "int") (T := "int") c_int (by kernel_rfl) (G.no B (x := "int") (by kernel_rfl)) (by rfl) (ra_cons (re_ix (re_var hX.toIn (by kernel_rfl)) re_int) ra_nil)) (re_var hX.toIn (by kernel_rfl))))
  (rss_cons (rs_tg (rt_sub (re_var hX.toIn (by kernel_rfl)) re_int (by intro _; rfl)) (re_op o_div (re_ix (re_var hX.toIn (by kernel_rfl)) re_int) (re_var hX.toIn (by kernel_rfl))))
  (rss_one (rs_ret (re_var hX.toIn (by kernel_rfl)))))) rss_nil)
  (rss_cons (rs_tg (rt_sub (re_var hX.toIn (by kernel_rfl)) re_int (by intro _; rfl)) (re_op o_add (re_ix (re_var hX.toIn (by kernel_rfl)) re_int) re_int))
  (rss_cons (rs_set (hX.lo (by kernel_rfl)) (re_op o_mod (re_callTy hX.toIn (x := "int") (T := "int") c_int (by kernel_rfl) (G.no B (x := "int") (by kernel_rfl)) (by rfl) (ra_cons (re_op o_mul (re_op o_add (re_ix (re_var hX.toIn (by kernel_rfl)) re_int) (re_op o_mul re_int (re_ix (re_var hX.toIn (by kernel_rfl)) re_int))) (re_op o_add re_int (re_ix (re_var hX.toIn (by kernel_rfl)) re_int))) ra_nil)) re_int))
  (rss_cons (rs_set (hX.lo (by kernel_rfl)) (re_op o_add (re_op o_mod (re_callTy hX.toIn (x := "int") (T := "int") c_int (by kernel_rfl) (G.no B (x := "int") (by kernel_rfl)) (by rfl) (ra_cons (re_var hX.toIn (by kernel_rfl)) ra_nil)) re_int) re_int))
  (rss_cons (rs_set (hX.lo (by kernel_rfl)) (re_op o_mod (re_callTy hX.toIn (x := "int") (T := "int") c_int (by kernel_rfl) (G.no B (x := "int") (by kernel_rfl)) (by rfl) (ra_cons (re_op o_mul (re_op o_add (re_op o_add (re_var hX.toIn (by kernel_rfl)) (re_ix (re_var hX.toIn (by kernel_rfl)) re_int)) (re_op o_div (re_ix (re_var hX.toIn (by kernel_rfl)) re_int) re_int)) (re_var hX.toIn (by kernel_rfl))) ra_nil)) re_int))
  (rss_one (rs_ret (re_op o_mod (re_callTy hX.toIn (x := "int") (T := "int") c_int (by kernel_rfl) (G.no B (x := "int") (by kernel_rfl)) (by rfl) (ra_cons (re_op o_div (re_op o_mod (re_callTy hX.toIn (x := "int") (T := "int") c_int (by kernel_rfl) (G.no B (x := "int") (by kernel_rfl)) (by rfl) (ra_cons (re_op o_add (re_op o_mul (re_var hX.toIn (by kernel_rfl)) re_int) (re_var hX.toIn (by kernel_rfl))) ra_nil)) re_int) re_int) ra_nil)) (re_var hX.toIn (by kernel_rfl))))))))))
theorem c__law_take (hh : HH K mg) (B : Bn mg) : Cl P w K mg base 1 "_law_take" ["tin", "below_so"] f__law_take := by
  obtain ⟨a, fd, F, hm⟩ := hh.F__law_take
  exact cl_of (N := N__law_take) F hm (by kernel_rfl) (fun _ _ _ _ _ _ us hl => match us, hl with | [_, _], _ => rfl) (fun _ _ _ _ _ _ us hl => match us, hl with | [_, _], _ => rfl) fun X hX G hr => d__law_take hh B hX G hr
def N__law_cells : List Str := ["script", "most_so", "cells_so", "k", "bit_so", "at_so"]
def m__law_cells : SX :=
  (sSeq (sPat (.nm 2) (frE [0, 1] (eOr (eCall (f1 gList) (aCons (eSl (evar 0) oNone (oSome (evar 1))) aNil)) (eLst (aCons (cst (.int 0)) aNil)))))
  (sSeq (sFor (iEnum (frE [0, 1] (eSl (evar 0) (oSome (evar 1)) (oSome (cst (.int 63)))))) (.tp [3, 4]) (sSeq (sPat (.nm 5) (eBin fMod (eCall (f1 gInt) (aCons (evar 3) aNil)) (evar 1)))
  (sTg (.sub (evar 2) (evar 5)) (eBin fAdd (eBin fIx (evar 2) (evar 5)) (eBin fMul (evar 4) (eBin fAdd (evar 3) (cst (.int 2))))))))
  (sRet (evar 2))))
def f__law_cells : FX := mkFn 6 2 m__law_cells
theorem ar__law_cells : Ar 2 f__law_cells := ar_mk
theorem d__law_cells (hh : HH K mg) (B : Bn mg) (hX : InF X N__law_cells (defScope s__law_cells)) (G : Gx X P w K mg base) (hr : Room 0 X.A) : RSs X (defBody s__law_cells) m__law_cells :=
  (rss_cons (rs_set (hX.lo (by kernel_rfl)) (re_fr [0, 1] (re_or (re_callTy hX.toIn (x := "list") (T := "list") c_list (by kernel_rfl) (G.no B (x := "list") (by kernel_rfl)) (by rfl) (ra_cons (re_sl (re_var hX.toIn (by kernel_rfl)) ro_none (ro_some (re_var hX.toIn (by kernel_rfl)))) ra_nil)) (re_one (re_lst (ra_cons re_int ra_nil))))))
  (rss_cons (rs_for hX.toIn (ri_enum hX.toIn (by kernel_rfl) (G.no B (x := "enumerate") (by kernel_rfl)) (re_fr [0, 1] (re_sl (re_var hX.toIn (by kernel_rfl)) (ro_some (re_var hX.toIn (by kernel_rfl))) (ro_some re_int)))) (rg_tup hX.toIn (rgs_cons (hX.lo (by kernel_rfl)) (rgs_cons (hX.lo (by kernel_rfl)) rgs_nil))) (rss_cons (rs_set (hX.lo (by kernel_rfl)) (re_op o_mod (re_callTy hX.toIn (x := "int") (T := "int") c_int (by kernel_rfl) (G.no B (x := "int") (by kernel_rfl)) (by rfl) (ra_cons (re_var hX.toIn (by kernel_rfl)) ra_nil)) (re_var hX.toIn (by kernel_rfl))))
  (rss_one (rs_tg (rt_sub (re_var hX.toIn (by kernel_rfl)) (re_var hX.toIn (by kernel_rfl)) (by intro _; rfl)) (re_op o_add (re_ix (re_var hX.toIn (by kernel_rfl)) (re_var hX.toIn (by kernel_rfl))) (re_op o_mul (re_var hX.toIn (by kernel_rfl)) (re_op o_add (re_var hX.toIn (by kernel_rfl)) re_int)))))))
  (rss_one (rs_ret (re_var hX.toIn (by kernel_rfl))))))
theorem c__law_cells (hh : HH K mg) (B : Bn mg) : Cl P w K mg base 1 "_law_cells" ["script", "most_so"] f__law_cells := by
  obtain ⟨a, fd, F, hm⟩ := hh.F__law_cells
  exact cl_of (N := N__law_cells) F hm (by kernel_rfl) (fun _ _ _ _ _ _ us hl => match us, hl with | [_, _], _ => rfl) (fun _ _ _ _ _ _ us hl => match us, hl with | [_, _], _ => rfl) fun X hX G hr => d__law_cells hh B hX G hr
def N__law_of : List Str := ["tin", "goods_so"]
def m__law_of : SX :=
  (sRet (frE [0, 1] (eBin fIx (evar 1) (eCall (callM f__law_take) (aCons (evar 0) (aCons (eCall (f1 gLen) (aCons (evar 1) aNil)) aNil))))))
def f__law_of : FX := mkFn 2 2 m__law_of
theorem ar__law_of : Ar 2 f__law_of := ar_mk
theorem d__law_of (hh : HH K mg) (B : Bn mg) (hX : InF X N__law_of (defScope s__law_of)) (G : Gx X P w K mg base) (hr : Room 1 X.A) : RSs X (defBody s__law_of) m__law_of :=
  (rss_one (rs_ret (re_fr [0, 1] (re_ix (re_var hX.toIn (by kernel_rfl)) (re_call hX.toIn G (c__law_take (base := base) (w := w) hh B) ar__law_take hr (by first | decide | omega) (by kernel_rfl) (ra_cons (re_var hX.toIn (by kernel_rfl)) (ra_cons (re_callB hX.toIn (x := "len") (id := "len") c_len (by kernel_rfl) (G.no B (x := "len") (by kernel_rfl)) (by rfl) (ra_cons (re_var hX.toIn (by kernel_rfl)) ra_nil)) ra_nil)))))))
theorem c__law_of (hh : HH K mg) (B : Bn mg) : Cl P w K mg base 2 "_law_of" ["tin", "goods_so"] f__law_of := by
  obtain ⟨a, fd, F, hm⟩ := hh.F__law_of
  exact cl_of (N := N__law_of) F hm (by kernel_rfl) (fun _ _ _ _ _ _ us hl => match us, hl with | [_, _], _ => rfl) (fun _ _ _ _ _ _ us hl => match us, hl with | [_, _], _ => rfl) fun X hX G hr => d__law_of hh B hX G hr
def N__law_same : List Str := ["got", "due", "mine", "its"]
def m__law_same (self : FX) : SX :=
  (sSeq (sIf (tTru (eCall (f2 gIsi) (aCons (evar 1) (aCons (eTup (aCons (cst (.ty "list")) (aCons (cst (.ty "tuple")) aNil))) aNil)))) (sSeq (sIf (tOrM (tBl (eBin (fEq true) (eCall (f2 gIsi) (aCons (evar 0) (aCons (cst (.ty "list")) aNil))) (eCall (f2 gIsi) (aCons (evar 1) (aCons (cst (.ty "list")) aNil))))) (tBl (eBin (fEq true) (eCall (f2 gIsi) (aCons (evar 0) (aCons (cst (.ty "tuple")) aNil))) (eCall (f2 gIsi) (aCons (evar 1) (aCons (cst (.ty "tuple")) aNil)))))) (sRet (cst (.bl false))) sNil)
  (sRet (frE [0, 1] (eAnd (eBin (fEq false) (eCall (f1 gLen) (aCons (evar 0) aNil)) (eCall (f1 gLen) (aCons (evar 1) aNil))) (eCall (f1 gAll) (aCons (eComp (iZip (evar 0) (evar 1)) (.tp [2, 3]) tYesM (frE [2, 3] (eCall (callM self) (aCons (evar 2) (aCons (evar 3) aNil)))) [2, 3]) aNil)))))) sNil)
  (sSeq (sIf (tBl (eBin (fIs false) (evar 1) (cst .non))) (sRet (eBin (fIs false) (evar 0) (cst .non))) sNil)
  (sSeq (sIf (tTru (eCall (f2 gIsi) (aCons (evar 1) (aCons (eTup (aCons (cst (.ty "bool")) (aCons (cst (.ty "str")) aNil))) aNil)))) (sRet (eAnd (eBin (fEq false) (eCall (f2 gIsi) (aCons (evar 0) (aCons (cst (.ty "bool")) aNil))) (eCall (f2 gIsi) (aCons (evar 1) (aCons (cst (.ty "bool")) aNil)))) (eAnd (eBin (fEq false) (eCall (f2 gIsi) (aCons (evar 0) (aCons (cst (.ty "str")) aNil))) (eCall (f2 gIsi) (aCons (evar 1) (aCons (cst (.ty "str")) aNil)))) (eBin (fEq false) (evar 0) (evar 1))))) sNil)
  (sRet (eAnd (eCall (f2 gIsi) (aCons (evar 0) (aCons (cst (.ty "int")) aNil))) (eAnd (eNot (eCall (f2 gIsi) (aCons (evar 0) (aCons (cst (.ty "bool")) aNil)))) (eBin (fEq false) (evar 0) (evar 1))))))))
def f__law_same : Nat → FX
  | 0 => fun _ _ => .err
  | n + 1 => mkFn 4 2 (m__law_same (f__law_same n))
theorem ar__law_same : ∀ n, Ar 2 (f__law_same n)
  | 0 => fun _ _ _ _ h => nomatch h
  | n + 1 => ar_mk
theorem d__law_same (hh : HH K mg) (B : Bn mg) {self : FX} {j : Nat} (cself : Cl P w K mg base (0 + j) "_law_same" ["got", "due"] self) (arself : Ar 2 self) (hX : InF X N__law_same (defScope s__law_same)) (G : Gx X P w K mg base) (hr : Room (0 + j) X.A) : RSs X (defBody s__law_same) (m__law_same self) :=
  (rss_cons (rs_if (rt_tru (re_callB hX.toIn (x := "isinstance") (id := "isinstance") c_isi (by kernel_rfl) (G.no B (x := "isinstance") (by kernel_rfl)) (by rfl) (ra_cons (re_var hX.toIn (by kernel_rfl)) (ra_cons (re_tup (ra_cons (re_type hX.toIn (x := "list") (by kernel_rfl) (G.no B (x := "list") (by kernel_rfl)) (by rfl)) (ra_cons (re_type hX.toIn (x := "tuple") (by kernel_rfl) (G.no B (x := "tuple") (by kernel_rfl)) (by rfl)) ra_nil))) ra_nil)))) (rss_cons (rs_if (PW.pt (rw_or (rt_cmp (o_ne hX.toIn) (re_callB hX.toIn (x := "isinstance") (id := "isinstance") c_isi (by kernel_rfl) (G.no B (x := "isinstance") (by kernel_rfl)) (by rfl) (ra_cons (re_var hX.toIn (by kernel_rfl)) (ra_cons (re_type hX.toIn (x := "list") (by kernel_rfl) (G.no B (x := "list") (by kernel_rfl)) (by rfl)) ra_nil))) (re_callB hX.toIn (x := "isinstance") (id := "isinstance") c_isi (by kernel_rfl) (G.no B (x := "isinstance") (by kernel_rfl)) (by rfl) (ra_cons (re_var hX.toIn (by kernel_rfl)) (ra_cons (re_type hX.toIn (x := "list") (by kernel_rfl) (G.no B (x := "list") (by kernel_rfl)) (by rfl)) ra_nil))) (nomark _)) (rw_or1 (rt_cmp (o_ne hX.toIn) (re_callB hX.toIn (x := "isinstance") (id := "isinstance") c_isi (by kernel_rfl) (G.no B (x := "isinstance") (by kernel_rfl)) (by rfl) (ra_cons (re_var hX.toIn (by kernel_rfl)) (ra_cons (re_type hX.toIn (x := "tuple") (by kernel_rfl) (G.no B (x := "tuple") (by kernel_rfl)) (by rfl)) ra_nil))) (re_callB hX.toIn (x := "isinstance") (id := "isinstance") c_isi (by kernel_rfl) (G.no B (x := "isinstance") (by kernel_rfl)) (by rfl) (ra_cons (re_var hX.toIn (by kernel_rfl)) (ra_cons (re_type hX.toIn (x := "tuple") (by kernel_rfl) (G.no B (x := "tuple") (by kernel_rfl)) (by rfl)) ra_nil))) (nomark _))))) (rss_one (rs_ret re_bl)) rss_nil)
  (rss_one (rs_ret (re_fr [0, 1] (re_and (re_cmp (o_eq hX.toIn) (re_callB hX.toIn (x := "len") (id := "len") c_len (by kernel_rfl) (G.no B (x := "len") (by kernel_rfl)) (by rfl) (ra_cons (re_var hX.toIn (by kernel_rfl)) ra_nil)) (re_callB hX.toIn (x := "len") (id := "len") c_len (by kernel_rfl) (G.no B (x := "len") (by kernel_rfl)) (by rfl) (ra_cons (re_var hX.toIn (by kernel_rfl)) ra_nil)) (nomark _)) (re_one (re_callB hX.toIn (x := "all") (id := "all") (c_all hX.toIn) (by kernel_rfl) (G.no B (x := "all") (by kernel_rfl)) (by rfl) (ra_cons (re_comp hX.toIn (own := [("mine", 2), ("its", 3)]) (p := (.tp [2, 3])) (t := tYesM) (ri_zip hX.toIn (by kernel_rfl) (G.no B (x := "zip") (by kernel_rfl)) (re_var hX.toIn (by kernel_rfl)) (re_var hX.toIn (by kernel_rfl))) (by kernel_rfl) (by rfl) (fun _ _ _ _ _ => (rg_tup hX.toIn.blk (rgs_cons (hX.toIn.loB (by kernel_rfl)) (rgs_cons (hX.toIn.loB (by kernel_rfl)) rgs_nil)))) (fun _ _ _ _ _ => rts_none) (fun _ _ _ _ _ => (re_fr [2, 3] (re_call hX.toIn.blk G.blk cself arself hr (by first | decide | omega) (by kernel_rfl) (ra_cons (re_var hX.toIn.blk (by kernel_rfl)) (ra_cons (re_var hX.toIn.blk (by kernel_rfl)) ra_nil)))))) ra_nil)))))))) rss_nil)
  (rss_cons (rs_if (rt_cmp o_is (re_var hX.toIn (by kernel_rfl)) re_non (nomark _)) (rss_one (rs_ret (re_cmp o_is (re_var hX.toIn (by kernel_rfl)) re_non (nomark _)))) rss_nil)
  (rss_cons (rs_if (rt_tru (re_callB hX.toIn (x := "isinstance") (id := "isinstance") c_isi (by kernel_rfl) (G.no B (x := "isinstance") (by kernel_rfl)) (by rfl) (ra_cons (re_var hX.toIn (by kernel_rfl)) (ra_cons (re_tup (ra_cons (re_type hX.toIn (x := "bool") (by kernel_rfl) (G.no B (x := "bool") (by kernel_rfl)) (by rfl)) (ra_cons (re_type hX.toIn (x := "str") (by kernel_rfl) (G.no B (x := "str") (by kernel_rfl)) (by rfl)) ra_nil))) ra_nil)))) (rss_one (rs_ret (re_and (re_cmp (o_eq hX.toIn) (re_callB hX.toIn (x := "isinstance") (id := "isinstance") c_isi (by kernel_rfl) (G.no B (x := "isinstance") (by kernel_rfl)) (by rfl) (ra_cons (re_var hX.toIn (by kernel_rfl)) (ra_cons (re_type hX.toIn (x := "bool") (by kernel_rfl) (G.no B (x := "bool") (by kernel_rfl)) (by rfl)) ra_nil))) (re_callB hX.toIn (x := "isinstance") (id := "isinstance") c_isi (by kernel_rfl) (G.no B (x := "isinstance") (by kernel_rfl)) (by rfl) (ra_cons (re_var hX.toIn (by kernel_rfl)) (ra_cons (re_type hX.toIn (x := "bool") (by kernel_rfl) (G.no B (x := "bool") (by kernel_rfl)) (by rfl)) ra_nil))) (nomark _)) (re_and (re_cmp (o_eq hX.toIn) (re_callB hX.toIn (x := "isinstance") (id := "isinstance") c_isi (by kernel_rfl) (G.no B (x := "isinstance") (by kernel_rfl)) (by rfl) (ra_cons (re_var hX.toIn (by kernel_rfl)) (ra_cons (re_type hX.toIn (x := "str") (by kernel_rfl) (G.no B (x := "str") (by kernel_rfl)) (by rfl)) ra_nil))) (re_callB hX.toIn (x := "isinstance") (id := "isinstance") c_isi (by kernel_rfl) (G.no B (x := "isinstance") (by kernel_rfl)) (by rfl) (ra_cons (re_var hX.toIn (by kernel_rfl)) (ra_cons (re_type hX.toIn (x := "str") (by kernel_rfl) (G.no B (x := "str") (by kernel_rfl)) (by rfl)) ra_nil))) (nomark _)) (re_one (re_cmp (o_eq hX.toIn) (re_var hX.toIn (by kernel_rfl)) (re_var hX.toIn (by kernel_rfl)) (nomark _))))))) rss_nil)
  (rss_one (rs_ret (re_and (re_callB hX.toIn (x := "isinstance") (id := "isinstance") c_isi (by kernel_rfl) (G.no B (x := "isinstance") (by kernel_rfl)) (by rfl) (ra_cons (re_var hX.toIn (by kernel_rfl)) (ra_cons (re_type hX.toIn (x := "int") (by kernel_rfl) (G.no B (x := "int") (by kernel_rfl)) (by rfl)) ra_nil))) (re_and (re_not (re_callB hX.toIn (x := "isinstance") (id := "isinstance") c_isi (by kernel_rfl) (G.no B (x := "isinstance") (by kernel_rfl)) (by rfl) (ra_cons (re_var hX.toIn (by kernel_rfl)) (ra_cons (re_type hX.toIn (x := "bool") (by kernel_rfl) (G.no B (x := "bool") (by kernel_rfl)) (by rfl)) ra_nil)))) (re_one (re_cmp (o_eq hX.toIn) (re_var hX.toIn (by kernel_rfl)) (re_var hX.toIn (by kernel_rfl)) (nomark _))))))))))
theorem c__law_same (hh : HH K mg) (B : Bn mg) : ∀ n, Cl P w K mg base (0 + n) "_law_same" ["got", "due"] (f__law_same n)
  | 0 => by
    obtain ⟨a, fd, F, hm⟩ := hh.F__law_same
    exact (cl_err F hm (fun _ _ _ _ _ _ us hl => match us, hl with | [_, _], _ => rfl) (fun _ _ _ _ _ _ us hl => match us, hl with | [_, _], _ => rfl)).mono (Nat.zero_le _)
  | n + 1 => by
    obtain ⟨a, fd, F, hm⟩ := hh.F__law_same
    exact cl_of (N := N__law_same) F hm (by kernel_rfl) (fun _ _ _ _ _ _ us hl => match us, hl with | [_, _], _ => rfl) (fun _ _ _ _ _ _ us hl => match us, hl with | [_, _], _ => rfl) fun X hX G hr => d__law_same hh B (c__law_same hh B n) (ar__law_same n) hX G hr
def N__law_unmarked : List Str := ["told_so"]
def m__law_unmarked : SX :=
  (sRet (frE [0] (eIf (tAndM (tTru (eCall (f2 gIsi) (aCons (evar 0) (aCons (cst (.ty "list")) aNil)))) (tAndM (tBl (eBin (fCmp gtI) (eCall (f1 gLen) (aCons (evar 0) aNil)) (cst (.int 0)))) (tTru (eCall (f2 gIsi) (aCons (eBin fIx (evar 0) (cst (.int 0))) (aCons (cst (.ty "str")) aNil)))))) (eLst (aCons (cst (.str "told")) (aCons (cst (.str "a mark")) aNil))) (evar 0))))
def f__law_unmarked : FX := mkFn 1 1 m__law_unmarked
theorem ar__law_unmarked : Ar 1 f__law_unmarked := ar_mk
theorem d__law_unmarked (hh : HH K mg) (B : Bn mg) (hX : InF X N__law_unmarked (defScope s__law_unmarked)) (G : Gx X P w K mg base) (hr : Room 0 X.A) : RSs X (defBody s__law_unmarked) m__law_unmarked :=
  (rss_one (rs_ret (re_fr [0] (re_if (PW.pt (rw_and (rt_tru (re_callB hX.toIn (x := "isinstance") (id := "isinstance") c_isi (by kernel_rfl) (G.no B (x := "isinstance") (by kernel_rfl)) (by rfl) (ra_cons (re_var hX.toIn (by kernel_rfl)) (ra_cons (re_type hX.toIn (x := "list") (by kernel_rfl) (G.no B (x := "list") (by kernel_rfl)) (by rfl)) ra_nil)))) (rw_and (rt_cmp o_gt (re_callB hX.toIn (x := "len") (id := "len") c_len (by kernel_rfl) (G.no B (x := "len") (by kernel_rfl)) (by rfl) (ra_cons (re_var hX.toIn (by kernel_rfl)) ra_nil)) re_int (nomark _)) (rw_and1 (rt_tru (re_callB hX.toIn (x := "isinstance") (id := "isinstance") c_isi (by kernel_rfl) (G.no B (x := "isinstance") (by kernel_rfl)) (by rfl) (ra_cons (re_ix (re_var hX.toIn (by kernel_rfl)) re_int) (ra_cons (re_type hX.toIn (x := "str") (by kernel_rfl) (G.no B (x := "str") (by kernel_rfl)) (by rfl)) ra_nil)))))))) (re_lst (ra_cons re_str (ra_cons re_str ra_nil))) (re_var hX.toIn (by kernel_rfl))))))
theorem c__law_unmarked (hh : HH K mg) (B : Bn mg) : Cl P w K mg base 1 "_law_unmarked" ["told_so"] f__law_unmarked := by
  obtain ⟨a, fd, F, hm⟩ := hh.F__law_unmarked
  exact cl_of (N := N__law_unmarked) F hm (by kernel_rfl) (fun _ _ _ _ _ _ us hl => match us, hl with | [_], _ => rfl) (fun _ _ _ _ _ _ us hl => match us, hl with | [_], _ => rfl) fun X hX G hr => d__law_unmarked hh B hX G hr
def N__law_gcd : List Str := ["one", "two"]
def m__law_gcd : SX :=
  (sSeq (sPar 0 1 (aCons (eCall (f1 gAbs) (aCons (evar 0) aNil)) (aCons (eCall (f1 gAbs) (aCons (evar 1) aNil)) aNil)))
  (sSeq (sWhile 1000 (tBl (eBin (fCmp gtI) (evar 1) (cst (.int 0)))) (sPar 0 1 (aCons (evar 1) (aCons (eBin fMod (evar 0) (evar 1)) aNil))))
  (sRet (evar 0))))
def f__law_gcd : FX := mkFn 2 2 m__law_gcd
theorem ar__law_gcd : Ar 2 f__law_gcd := ar_mk
theorem d__law_gcd (hh : HH K mg) (B : Bn mg) (hX : InF X N__law_gcd (defScope s__law_gcd)) (G : Gx X P w K mg base) (hr : Room 0 X.A) : RSs X (defBody s__law_gcd) m__law_gcd :=
  (rss_cons (rs_par hX.toIn (by kernel_rfl) (by kernel_rfl) (by rfl) (by kernel_rfl) (by kernel_rfl) (ra_cons (re_callB hX.toIn (x := "abs") (id := "abs") c_abs (by kernel_rfl) (G.no B (x := "abs") (by kernel_rfl)) (by rfl) (ra_cons (re_var hX.toIn (by kernel_rfl)) ra_nil)) (ra_cons (re_callB hX.toIn (x := "abs") (id := "abs") c_abs (by kernel_rfl) (G.no B (x := "abs") (by kernel_rfl)) (by rfl) (ra_cons (re_var hX.toIn (by kernel_rfl)) ra_nil)) ra_nil)) (by intro env he; cases env; cases he; rfl))
  (rss_cons (rs_while hX.toIn (rt_cmp o_gt (re_var hX.toIn (by kernel_rfl)) re_int (nomark _)) (rss_one (rs_par hX.toIn (by kernel_rfl) (by kernel_rfl) (by rfl) (by kernel_rfl) (by kernel_rfl) (ra_cons (re_var hX.toIn (by kernel_rfl)) (ra_cons (re_op o_mod (re_var hX.toIn (by kernel_rfl)) (re_var hX.toIn (by kernel_rfl))) ra_nil)) (by intro env he; cases env; cases he; rfl))))
  (rss_one (rs_ret (re_var hX.toIn (by kernel_rfl))))))
theorem c__law_gcd (hh : HH K mg) (B : Bn mg) : Cl P w K mg base 1 "_law_gcd" ["one", "two"] f__law_gcd := by
  obtain ⟨a, fd, F, hm⟩ := hh.F__law_gcd
  exact cl_of (N := N__law_gcd) F hm (by kernel_rfl) (fun _ _ _ _ _ _ us hl => match us, hl with | [_, _], _ => rfl) (fun _ _ _ _ _ _ us hl => match us, hl with | [_, _], _ => rfl) fun X hX G hr => d__law_gcd hh B hX G hr
def N__law_cut : List Str := ["over_so", "under_so", "shared_so"]
def m__law_cut : SX :=
  (sSeq (sPat (.nm 2) (frE [0, 1] (eCall (callM f__law_gcd) (aCons (evar 0) (aCons (evar 1) aNil)))))
  (sSeq (sPat (.nm 2) (eIf (tBl (eBin (fCmp gtI) (evar 1) (cst (.int 0)))) (evar 2) (eBin fSub (cst (.int 0)) (evar 2))))
  (sRet (eTup (aCons (eBin fDiv (evar 0) (evar 2)) (aCons (eBin fDiv (evar 1) (evar 2)) aNil))))))
def f__law_cut : FX := mkFn 3 2 m__law_cut
theorem ar__law_cut : Ar 2 f__law_cut := ar_mk
theorem d__law_cut (hh : HH K mg) (B : Bn mg) (hX : InF X N__law_cut (defScope s__law_cut)) (G : Gx X P w K mg base) (hr : Room 1 X.A) : RSs X (defBody s__law_cut) m__law_cut :=
  (rss_cons (rs_set (hX.lo (by kernel_rfl)) (re_fr [0, 1] (re_call hX.toIn G (c__law_gcd (base := base) (w := w) hh B) ar__law_gcd hr (by first | decide | omega) (by kernel_rfl) (ra_cons (re_var hX.toIn (by kernel_rfl)) (ra_cons (re_var hX.toIn (by kernel_rfl)) ra_nil)))))
  (rss_cons (rs_set (hX.lo (by kernel_rfl)) (re_if (rt_cmp o_gt (re_var hX.toIn (by kernel_rfl)) re_int (nomark _)) (re_var hX.toIn (by kernel_rfl)) (re_op o_sub re_int (re_var hX.toIn (by kernel_rfl)))))
  (rss_one (rs_ret (re_tup (ra_cons (re_op o_div (re_var hX.toIn (by kernel_rfl)) (re_var hX.toIn (by kernel_rfl))) (ra_cons (re_op o_div (re_var hX.toIn (by kernel_rfl)) (re_var hX.toIn (by kernel_rfl))) ra_nil)))))))
theorem c__law_cut (hh : HH K mg) (B : Bn mg) : Cl P w K mg base 2 "_law_cut" ["over_so", "under_so"] f__law_cut := by
  obtain ⟨a, fd, F, hm⟩ := hh.F__law_cut
  exact cl_of (N := N__law_cut) F hm (by kernel_rfl) (fun _ _ _ _ _ _ us hl => match us, hl with | [_, _], _ => rfl) (fun _ _ _ _ _ _ us hl => match us, hl with | [_, _], _ => rfl) fun X hX G hr => d__law_cut hh B hX G hr
def N__law_mul : List Str := ["one", "two"]
def m__law_mul : SX :=
  (sRet (frE [0, 1] (eCall (callM f__law_cut) (aCons (eBin fMul (eBin fIx (evar 0) (cst (.int 0))) (eBin fIx (evar 1) (cst (.int 0)))) (aCons (eBin fMul (eBin fIx (evar 0) (cst (.int 1))) (eBin fIx (evar 1) (cst (.int 1)))) aNil)))))
def f__law_mul : FX := mkFn 2 2 m__law_mul
theorem ar__law_mul : Ar 2 f__law_mul := ar_mk
theorem d__law_mul (hh : HH K mg) (B : Bn mg) (hX : InF X N__law_mul (defScope s__law_mul)) (G : Gx X P w K mg base) (hr : Room 2 X.A) : RSs X (defBody s__law_mul) m__law_mul :=
  (rss_one (rs_ret (re_fr [0, 1] (re_call hX.toIn G (c__law_cut (base := base) (w := w) hh B) ar__law_cut hr (by first | decide | omega) (by kernel_rfl) (ra_cons (re_op o_mul (re_ix (re_var hX.toIn (by kernel_rfl)) re_int) (re_ix (re_var hX.toIn (by kernel_rfl)) re_int)) (ra_cons (re_op o_mul (re_ix (re_var hX.toIn (by kernel_rfl)) re_int) (re_ix (re_var hX.toIn (by kernel_rfl)) re_int)) ra_nil))))))
theorem c__law_mul (hh : HH K mg) (B : Bn mg) : Cl P w K mg base 3 "_law_mul" ["one", "two"] f__law_mul := by
  obtain ⟨a, fd, F, hm⟩ := hh.F__law_mul
  exact cl_of (N := N__law_mul) F hm (by kernel_rfl) (fun _ _ _ _ _ _ us hl => match us, hl with | [_, _], _ => rfl) (fun _ _ _ _ _ _ us hl => match us, hl with | [_, _], _ => rfl) fun X hX G hr => d__law_mul hh B hX G hr
def N__law_pow : List Str := ["one", "many_so", "found", "lap"]
def m__law_pow : SX :=
  (sSeq (sPat (.nm 2) (eTup (aCons (cst (.int 1)) (aCons (cst (.int 1)) aNil))))
  (sSeq (sFor (iRange (aCons (eCall (f1 gAbs) (aCons (evar 1) aNil)) aNil)) (.nm 3) (sPat (.nm 2) (frE [0, 2] (eCall (callM f__law_mul) (aCons (evar 2) (aCons (evar 0) aNil))))))
  (sRet (frE [1, 2] (eIf (tBl (eBin (fCmp geI) (evar 1) (cst (.int 0)))) (evar 2) (eCall (callM f__law_cut) (aCons (eBin fIx (evar 2) (cst (.int 1))) (aCons (eBin fIx (evar 2) (cst (.int 0))) aNil))))))))
def f__law_pow : FX := mkFn 4 2 m__law_pow
theorem ar__law_pow : Ar 2 f__law_pow := ar_mk
theorem d__law_pow (hh : HH K mg) (B : Bn mg) (hX : InF X N__law_pow (defScope s__law_pow)) (G : Gx X P w K mg base) (hr : Room 3 X.A) : RSs X (defBody s__law_pow) m__law_pow :=
  (rss_cons (rs_set (hX.lo (by kernel_rfl)) (re_tup (ra_cons re_int (ra_cons re_int ra_nil))))
  (rss_cons (rs_for hX.toIn (ri_range1 hX.toIn (by kernel_rfl) (G.no B (x := "range") (by kernel_rfl)) (re_callB hX.toIn (x := "abs") (id := "abs") c_abs (by kernel_rfl) (G.no B (x := "abs") (by kernel_rfl)) (by rfl) (ra_cons (re_var hX.toIn (by kernel_rfl)) ra_nil))) (rg_name (hX.lo (by kernel_rfl))) (rss_one (rs_set (hX.lo (by kernel_rfl)) (re_fr [0, 2] (re_call hX.toIn G (c__law_mul (base := base) (w := w) hh B) ar__law_mul hr (by first | decide | omega) (by kernel_rfl) (ra_cons (re_var hX.toIn (by kernel_rfl)) (ra_cons (re_var hX.toIn (by kernel_rfl)) ra_nil)))))))
  (rss_one (rs_ret (re_fr [1, 2] (re_if (rt_cmp o_ge (re_var hX.toIn (by kernel_rfl)) re_int (nomark _)) (re_var hX.toIn (by kernel_rfl)) (re_call hX.toIn G (c__law_cut (base := base) (w := w) hh B) ar__law_cut hr (by first | decide | omega) (by kernel_rfl) (ra_cons (re_ix (re_var hX.toIn (by kernel_rfl)) re_int) (ra_cons (re_ix (re_var hX.toIn (by kernel_rfl)) re_int) ra_nil)))))))))
theorem c__law_pow (hh : HH K mg) (B : Bn mg) : Cl P w K mg base 4 "_law_pow" ["one", "many_so"] f__law_pow := by
  obtain ⟨a, fd, F, hm⟩ := hh.F__law_pow
  exact cl_of (N := N__law_pow) F hm (by kernel_rfl) (fun _ _ _ _ _ _ us hl => match us, hl with | [_, _], _ => rfl) (fun _ _ _ _ _ _ us hl => match us, hl with | [_, _], _ => rfl) fun X hX G hr => d__law_pow hh B hX G hr
def N__law_over : List Str := ["one", "two", "caught", "told_so", "error_a"]
def m__law_over : SX :=
  (sSeq (sPat (.tp [2, 3]) (eTup (aCons (cst .non) (aCons (cst .non) aNil))))
  (sSeq (sPat (.nm 3) (frE [0, 1] (eCall (callM f__law_unmarked) (aCons (eCall (callM f_fraction_over) (aCons (evar 0) (aCons (evar 1) aNil))) aNil))))
  (sRet (eIf (tBl (eBin (fIs false) (evar 2) (cst .non))) (evar 3) (evar 2)))))
def f__law_over : FX := mkFn 5 2 m__law_over
theorem ar__law_over : Ar 2 f__law_over := ar_mk
theorem d__law_over (hh : HH K mg) (B : Bn mg) (hX : InF X N__law_over (defScope s__law_over)) (G : Gx X P w K mg base) (hr : Room 11 X.A) : RSs X (defBody s__law_over) m__law_over :=
  (rss_cons (rs_asgS hX.toIn (rg_tup hX.toIn (rgs_cons (hX.lo (by kernel_rfl)) (rgs_cons (hX.lo (by kernel_rfl)) rgs_nil))) (re_tup (ra_cons re_non (ra_cons re_non ra_nil))) (by intro env he; cases env; cases he; rfl))
  (rss_cons (rs_try hX.toIn (rss_one (rs_set (hX.lo (by kernel_rfl)) (re_fr [0, 1] (re_call hX.toIn G (c__law_unmarked (base := base) (w := w) hh B) ar__law_unmarked hr (by first | decide | omega) (by kernel_rfl) (ra_cons (re_callK hX.toIn G (c_fraction_over (base := base) (w := w) hh B) ar_fraction_over hr (by first | decide | omega) (by kernel_rfl) (rk_cons (re_var hX.toIn (by kernel_rfl)) (rk_cons (re_var hX.toIn (by kernel_rfl)) rk_nil))) ra_nil))))))
  (rss_one (rs_ret (re_if (rt_cmp o_is (re_var hX.toIn (by kernel_rfl)) re_non (nomark _)) (re_var hX.toIn (by kernel_rfl)) (re_var hX.toIn (by kernel_rfl)))))))
theorem c__law_over (hh : HH K mg) (B : Bn mg) : Cl P w K mg base 12 "_law_over" ["one", "two"] f__law_over := by
  obtain ⟨a, fd, F, hm⟩ := hh.F__law_over
  exact cl_of (N := N__law_over) F hm (by kernel_rfl) (fun _ _ _ _ _ _ us hl => match us, hl with | [_, _], _ => rfl) (fun _ _ _ _ _ _ us hl => match us, hl with | [_, _], _ => rfl) fun X hX G hr => d__law_over hh B hX G hr
end
end Rx.K84

namespace Rx.K84
open PySem PySem.Spec PyProof.Rows L2 Rx
/-! fraction_over by nought; _law_over around it -/
def m_fo : SX := sPar 2 3 (aCons (eCall (callM f_sure_fraction) (aCons (evar 0) aNil)) (aCons (eCall (callM f_sure_fraction) (aCons (evar 1) aNil)) aNil))
def mc_fo : TX := tBl (eBin (fEq false) (evar 3) (cst (.tup [.int 0, .int 1])))
section
variable {P : Program} {w : World} {K : PySem.W.Frag} {mg : Str → Option Value} {base : Heap} {X : Cx}
theorem fo_raise (hh : HH K mg) (B : Bn mg) {C a : Addr} {fd : FuncData} (er : ErrC K mg "CanNot" C) (F : Fun K "fraction_over" "fraction_over" s_fraction_over a fd) :
    FnOk P w K mg base (L2.CX P w) 11 a fd ["one", "other"] (rP K 4 2 m_fo mc_fo C) :=
  fn_raise (N := N_fraction_over) (m := m_fo) (mc := mc_fo) F (scB_ok (by kernel_rfl)) er rfl (by kernel_rfl) (by decide)
    (fun X hX G hr => (rs_par hX.toIn (by kernel_rfl) (by kernel_rfl) (by rfl) (by kernel_rfl) (by kernel_rfl) (ra_cons (re_call hX.toIn G (c_sure_fraction (base := base) (w := w) hh B) ar_sure_fraction hr (by first | decide | omega) (by kernel_rfl) (ra_cons (re_var hX.toIn (by kernel_rfl)) ra_nil)) (ra_cons (re_call hX.toIn G (c_sure_fraction (base := base) (w := w) hh B) ar_sure_fraction hr (by first | decide | omega) (by kernel_rfl) (ra_cons (re_var hX.toIn (by kernel_rfl)) ra_nil)) ra_nil)) (by intro env he; cases env; cases he; rfl)))
    (fun X hX G hr => (rt_cmp (o_eq hX.toIn) (re_var hX.toIn (by kernel_rfl)) (re_globT hX.toIn G (by kernel_rfl) hh.c_NOUGHT (fun _ _ _ => .cons (.int 0) (.cons (.int 1) (.nil))) (by decide)) (nomark _)))
/-- these values lead to the error -/
def raisesB (ws : List W) : Bool := W.lows 0 ws && (match m_fo (ws.map some ++ List.replicate 2 none) [] with
  | .ok (.nx e) s1 => (match mc_fo e s1 with
    | .ok true _ => true
    | _ => false)
  | _ => false)
def f_caught : FX := fun ws st => if ws.length = 2 ∧ raisesB ws = true then .ok (.ls st.length) (st ++ [.lst [.str "cannot", .bl true]]) else .err
/-- the clause's suite -/
def ts_c (K : PySem.W.Frag) (C : Addr) (a : Addr) (cls : Value) (d : Option Addr) : TS := fun D σ H => cls = .ref C ∧ d = none ∧ tAsg (tLst (tCons (tC (.str "cannot")) (tCons (tCB (rIsE K C a) (tCons (tVar 4) (tCons (tC (.ty "ValueError")) tNil))) tNil))) (gName 2) D σ H
/-- the try's body -/
def tb_c (K : PySem.W.Frag) (C : Addr) (W : WX) : TS := tAsg (tCall (lP K 1 f__law_unmarked) [] E0 (tCons (tCallS (rP K 4 2 m_fo mc_fo C) (WE W) (tCons (tVar 0) (tCons (tVar 1) tNil))) tNil)) (gName 3)
theorem _root_.Rx.EnvR.skip {μ : Nat → Addr} {L : Nat} {H : Hp} {env : Env'} {σ : L2.St} {i : Nat} {o : Option V} (E : EnvR K μ L H env σ) (h : env[i]? = some none) : EnvR K μ L H env (σ.set i o) := by
  refine ⟨by rw [List.length_set]; exact E.len, fun j w hj => ?_⟩
  by_cases hij : i = j
  · subst hij
    rw [h] at hj
    cases hj
  · rw [List.getElem?_set_ne hij]
    exact E.at_ j w hj
theorem hnd_of {X : Cx} {N : List Str} {sc : Scope} (hX : InF X N sc) : X.N.Nodup := by rw [hX.n]; exact hX.nd
theorem raises_of {ws : List W} (h : raisesB ws = true) : W.lows 0 ws = true ∧ ∃ e s1 s2, m_fo (ws.map some ++ List.replicate 2 none) [] = .ok (.nx e) s1 ∧ mc_fo e s1 = .ok true s2 := by
  unfold raisesB at h
  rw [Bool.and_eq_true] at h
  obtain ⟨h1, h2⟩ := h
  refine ⟨h1, ?_⟩
  split at h2
  · rename_i e s1 he
    split at h2
    · rename_i s2 hm
      exact ⟨e, s1, s2, he, hm⟩
    · cases h2
  · cases h2
def m_lo1 : SX := sPat (.tp [2, 3]) (eTup (aCons (cst .non) (aCons (cst .non) aNil)))
def m_lo3 : SX := sRet (eIf (tBl (eBin (fIs false) (evar 2) (cst .non))) (evar 3) (evar 2))
theorem lo_caught (hh : HH K mg) (B : Bn mg) {C a : Addr} {fd : FuncData} (er : ErrC K mg "CanNot" C) (F : Fun K "_law_over" "_law_over" s__law_over a fd) :
    FnOk P w K mg base CX0 12 a fd ["one", "two"] (lP K 2 f_caught) := by
  have S : FnScope N__law_over ["one", "two"] (defScope s__law_over) := scB_ok (by kernel_rfl)
  obtain ⟨aF, fdF, FF, hmF⟩ := hh.F_fraction_over
  have GF := fo_raise (P := P) (w := w) (base := base) hh B er FF
  obtain ⟨aU, fdU, FU, hmU, kpU, bU, _⟩ := (c__law_unmarked (P := P) (w := w) (base := base) hh B).ex
  have kpF := FF.kp
  have bkF : ∀ (s : Shared) (ws : List Value), ws.length = (["one", "other"] : List Str).length → BindsTo s fdF ⟨[], (["one", "other"] : List Str).zip ws⟩ ((["one", "other"] : List Str).zip ws) := by
    obtain ⟨oc, od, kV, doc, pm, an, cdv, ct, osl, rfl, _, _⟩ := FF.ex
    exact fun s ws hl => .of_eq (match ws, hl with | [_, _], _ => rfl)
  refine F.ok S (fun vs H Q E h => h.1) fun cdv A outer s H vs Q E hr h => ?_
  generalize hXe : (cxOf CX0 P w K mg base N__law_over "_law_over" (defScope s__law_over) a cdv A outer s H E).nox = X
  have hX : InF X N__law_over (defScope s__law_over) := by
    rw [← hXe]
    exact ⟨⟨rfl, rfl, rfl, rfl, S.nd, hr.mono (Nat.zero_le _)⟩, fun _ _ => rfl⟩
  have G : Gx X P w K mg base := by
    rw [← hXe]
    exact ⟨rfl, rfl, rfl, rfl, rfl⟩
  have hrX : Room 11 X.A := by
    rw [← hXe]
    exact hr
  have hs1 : X.stack = X.env :: X.outer := by rw [← hXe]; rfl
  have hs2 : X.env.frame = some X.env.locals := by rw [← hXe]; rfl
  have hs3 : X.env.kindOf "error_a" = some .local := by rw [← hXe]; kernel_rfl
  clear hXe
  obtain ⟨rfl, rfl, rfl, rfl, rfl⟩ := G
  have G : Gx X X.prog X.w X.K X.mg X.base := ⟨rfl, rfl, rfl, rfl, rfl⟩
  have hnd : X.N.Nodup := hnd_of hX
  obtain ⟨o1, o2, o3, o4⟩ := hX.toIn.nm (i := 0) (x := "one") (by kernel_rfl)
  obtain ⟨t1, t2, t3, t4⟩ := hX.toIn.nm (i := 1) (x := "two") (by kernel_rfl)
  obtain ⟨r1, r2, r3, r4⟩ := hX.toIn.nm (i := 4) (x := "error_a") (by kernel_rfl)
  have l3 : Lo X 3 "told_so" := hX.lo (by kernel_rfl)
  have l2 : Lo X 2 "caught" := hX.lo (by kernel_rfl)
  have gU : Gl X "_law_unmarked" := hX.toIn.gl (by kernel_rfl)
  have gF : Gl X "fraction_over" := hX.toIn.gl (by kernel_rfl)
  have gC : Gl X "CanNot" := hX.toIn.gl (by kernel_rfl)
  have gI : Gl X "isinstance" := hX.toIn.gl (by kernel_rfl)
  have gV : Gl X "ValueError" := hX.toIn.gl (by kernel_rfl)
  have nI : X.mg "isinstance" = none := G.no B (by kernel_rfl)
  have nV : X.mg "ValueError" = none := G.no B (by kernel_rfl)
  refine ⟨_, pss_cons (t := lS X.K m_lo1) (rs_asgS hX.toIn (rg_tup hX.toIn (rgs_cons (hX.lo (by kernel_rfl)) (rgs_cons (hX.lo (by kernel_rfl)) rgs_nil))) (re_tup (ra_cons re_non (ra_cons re_non ra_nil))) (by intro env he; cases env; cases he; rfl))
    (pss_cons (ps_try_as (i := 4) (x := "CanNot") (n := "error_a") (c := .ref C) (Wout := fun _ _ _ _ => False) (tb := tb_c X.K C) (ts := ts_c X.K C) hs1 hs2 hnd r1 hs3 ⟨gC, by decide, .inl er.mg_⟩ takes0 (fun W pn xe tk _ => ?_) (fun a oe cls d pn hz hf => ?_))
      (pss_one (t := lS X.K m_lo3) (rs_ret (re_if (rt_cmp o_is (re_var hX.toIn (by kernel_rfl)) re_non (nomark _)) (re_var hX.toIn (by kernel_rfl)) (re_var hX.toIn (by kernel_rfl)))))), ?_⟩
  · refine pss_one (ps_set (X := X.tr pn xe) (i := 3) hnd l3.1 l3.2.1 (pe_call (X := X.tr pn xe) FU (hrX.mono (by decide)) gU hmU kpU bU .nil pass0 (pa_cons (pe_callKS (X := X.tr pn xe) (CX := L2.CX X.prog X.w) GF hrX gF hmF kpF bkF (passAt tk) (pk_cons (pe_var (X := X.tr pn xe) o1 o2 o3 o4) (pk_cons (pe_var (X := X.tr pn xe) t1 t2 t3 t4) pk_nil)) (by rfl) (by rfl) (by decide) (by rfl)) pa_nil)) (by rfl) l3.2.2.1)
  · refine ⟨fun pins s σ H D I ⟨e1, e2, h⟩ => ?_⟩
    subst e1 e2
    exact (pss_one (ps_set (X := X.suite a ((a, oe) :: pn)) (i := 2) hnd l2.1 l2.2.1 (pe_lst (pa_cons pe_str (pa_cons (pe_callB (X := X.suite a ((a, oe) :: pn)) (call_isE er.cls hz hf) gI nI (by rfl) (pa_cons (pe_var (X := X.suite a ((a, oe) :: pn)) r1 r2 r3 r4) (pa_cons (pe_bltn (X := X.suite a ((a, oe) :: pn)) (v := .ty "ValueError") gV nV (by rfl) rfl) pa_nil))) pa_nil))) (by rfl) l2.2.2.1)).run pins s σ H D I h
  · obtain ⟨_, μ, st, ws, w0, st', Sm, r, e, k⟩ := h
    unfold f_caught at e
    split at e
    rotate_left
    · cases e
    rename_i hc
    cases e
    obtain ⟨hl, hrb⟩ := hc
    obtain ⟨hlow, ef, sf1, sf2, e1, e2⟩ := raises_of hrb
    obtain ⟨wa, wb, rfl⟩ : ∃ a b, ws = [a, b] := by
      match ws, hl with
      | [a, b], _ => exact ⟨a, b, rfl⟩
    refine ⟨μ, [some wa, some wb, none, none, none], st, .nx [some wa, some wb, some .non, some .non, none], st, Sm, envR_start (N := N__law_over) r rfl, rfl, fun μ1 H1 N1 S1 σ1 E1 => ?_⟩
    obtain ⟨v0, a0, q0⟩ := E1.at_ 0 wa rfl
    obtain ⟨v1, a1, q1⟩ := E1.at_ 1 wb rfl
    have hw := hlow
    simp only [W.lows, Bool.and_eq_true] at hw
    have c0 : Rep X.K μ1 0 H1 v0 wa := q0.cut (M := 0) (fun i h => absurd h (Nat.not_lt_zero _)) (Nat.zero_le _) hw.1
    have c1 : Rep X.K μ1 0 H1 v1 wb := q1.cut (M := 0) (fun i h => absurd h (Nat.not_lt_zero _)) (Nat.zero_le _) hw.2.1
    refine ⟨v0, a0, v1, a1, rfl, μ1, [], [wa, wb], ef, sf1, sf2, Sim.nil, .cons c0 (.cons c1 .nil), e1, e2, fun μ2 H2 N2 S2 => ?_⟩
    have S20 : Sim X.K μ1 st H2 := S1.keep N2.from0 fun a o h => N2.fr a o h fun i hi => absurd hi (Nat.not_lt_zero _)
    have N12 := N1.trans (N2.from0 (st := st))
    refine ⟨true, er.exm, fun _ a ha => ⟨rfl, rfl, ?_⟩, fun z => nomatch z⟩
    have hlen : σ1.length = 5 := E1.len.symm
    refine ⟨.ref a, by rw [List.getElem?_set_self (by rw [hlen]; decide)], .ty "ValueError", .type "ValueError", true, rfl, fun u h => h, er.val, by rw [sizeLine_eq]; decide, fun p hp => ?_⟩
    have E2 : EnvR X.K μ1 st.length H2 [some wa, some wb, some .non, some .non, none] σ1 := E1.nxt N2.from0
    have N3 : Nxt X.K μ1 st.length H2 (muAt μ1 st.length p) (st.length + 1) (upd H2 p (.lst [.str "cannot", .bl true])) := Nxt.new hp
    have hl3 : (st ++ [Ob.lst [.str "cannot", .bl true]]).length = st.length + 1 := by simp
    have S3 := S20.new (vs := [.str "cannot", .bl true]) (ws := [.str "cannot", .bl true]) hp (.cons (.str _) (.cons (.bl _) .nil))
    have rp : Rep X.K (muAt μ1 st.length p) (st.length + 1) (upd H2 p (.lst [.str "cannot", .bl true])) (.ref p) (.ls st.length) := by
      have q : Rep X.K (muAt μ1 st.length p) (st.length + 1) (upd H2 p (.lst [.str "cannot", .bl true])) (.ref (muAt μ1 st.length p st.length)) (.ls st.length) := .ls (Nat.lt_succ_self _)
      rw [muAt_eq] at q
      exact q
    have E3 := (((E2.nxt N3).skip (i := 4) (o := some (V.ref a)) rfl).set rp 2).skip (i := 4) (o := none) rfl
    refine ⟨muAt μ1 st.length p, _, st ++ [.lst [.str "cannot", .bl true]], .rt (.ls st.length), st ++ [.lst [.str "cannot", .bl true]], S3, by rw [hl3]; exact E3, rfl, fun μ4 H4 N4 S4 v rv => ?_⟩
    refine k μ4 H4 v ?_ S4 rv
    rw [hl3] at N4
    exact (N12.trans N3).trans (by rw [hl3]; exact N4)
/-- _law_over by both ways -/
def f_over2 : FX := fun ws st => match f__law_over ws st with
  | .ok w s => .ok w s
  | .err => f_caught ws st
theorem ar_over2 : Ar 2 f_over2 := fun ws st r st' h => by
  unfold f_over2 at h
  split at h
  · exact ar__law_over ws st _ _ (by assumption)
  · unfold f_caught at h
    split at h
    · rename_i hc; exact hc.1
    · cases h
theorem c_over2 (hh : HH K mg) (B : Bn mg) : Cl P w K mg base 12 "_law_over" ["one", "two"] f_over2 := by
  obtain ⟨C, er⟩ := hh.er
  obtain ⟨a, fd, F, hm⟩ := hh.F__law_over
  have F1 : FnOk P w K mg base CX0 12 a fd ["one", "two"] (lP K 2 f__law_over) :=
    fn_ok (N := N__law_over) F (scB_ok (by kernel_rfl)) fun X hX G hr => d__law_over hh B hX G hr
  have F2 : FnOk P w K mg base CX0 12 a fd ["one", "two"] (lP K 2 f_caught) := lo_caught hh B er F
  refine ⟨a, fd, ⟨fun vs H Q E h => h.1, fun A outer s H args us vs Q E hr e0 hb hv h => ?_⟩, hm, F.kp, F.binds (fun _ _ _ _ _ _ us hl => match us, hl with | [_, _], _ => rfl), ?_⟩
  · obtain ⟨hl, μ, st, ws, w0, st', S, r, e, k⟩ := h
    unfold f_over2 at e
    split at e
    · rename_i w1 s1 he
      exact F1.run A outer s H args us vs Q E hr e0 hb hv ⟨hl, μ, st, ws, w0, st', S, r, he.trans e, k⟩
    · exact F2.run A outer s H args us vs Q E hr e0 hb hv ⟨hl, μ, st, ws, w0, st', S, r, e, k⟩
  · obtain ⟨oc, od, kV, doc, pm, an, cdv, ct, osl, rfl, lk, hcd⟩ := F.ex
    exact fun s ws hl => .of_eq (match ws, hl with | [_, _], _ => rfl)
end
end Rx.K84

namespace Rx.K84
open PySem PySem.Spec PyProof.Rows L2 Rx

section
variable {P : Program} {w : World} {K : PySem.W.Frag} {mg : Str → Option Value} {base : Heap} {X : Cx}
def N_law : List Str := ["script", "tin", "lap", "most_so", "numbers_so", "one", "two", "three", "add", "times_v", "many", "more", "power_so", "shift_so", "k", "own"]
def m_law : SX :=
  (sSeq (sPat (.nm 1) (frE [0] (eCall (callM f__law_box) (aCons (eCall (callM f__law_cells) (aCons (evar 0) (aCons (cst (.int 1)) aNil))) (aCons (cst (.int 0)) aNil)))))
  (sSeq (sFor (iRange (aCons (cst (.int 8)) aNil)) (.nm 2) (sSeq (sPat (.nm 3) (frE [1] (eCall (callM f__law_of) (aCons (evar 1) (aCons (eLst (aCons (cst (.int 5)) (aCons (cst (.int 100)) (aCons (eBin fPow (cst (.int 10)) (cst (.int 6))) aNil)))) aNil)))))
  (sSeq (sPat (.nm 4) (frE [1, 3] (eComp (iRange (aCons (cst (.int 3)) aNil)) (.nm 14) tYesM (frE [1, 3] (eCall (callM f_fraction) (aCons (eBin fSub (eCall (callM f__law_take) (aCons (evar 1) (aCons (eBin fAdd (eBin fMul (cst (.int 2)) (evar 3)) (cst (.int 1))) aNil))) (evar 3)) (aCons (eBin fAdd (cst (.int 1)) (eCall (callM f__law_take) (aCons (evar 1) (aCons (evar 3) aNil)))) aNil)))) [14])))
  (sSeq (sPat (.tp [5, 6, 7]) (evar 4))
  (sSeq (sIf (frT [4] (tBl (eBin (fEq true) (eComp (iOf (evar 4)) (.nm 15) (frT [15] (tOrM (tBl (eBin (fIs true) (eCall (callM f_is_fraction) (aCons (evar 15) aNil)) (cst (.bl true)))) (tBl (eBin (fEq true) (eCall (callM f__law_gcd) (aCons (eBin fIx (evar 15) (cst (.int 0))) (aCons (eBin fIx (evar 15) (cst (.int 1))) aNil))) (cst (.int 1)))))) (evar 15) [15]) (eLst aNil)))) (sRet (cst (.bl false))) sNil)
  (sSeq (sPar 8 9 (aCons (eCall (callM f_fraction_sum) (aCons (evar 5) (aCons (evar 6) aNil))) (aCons (eCall (callM f_fraction_product) (aCons (evar 5) (aCons (evar 6) aNil))) aNil)))
  (sSeq (sIf (frT [5, 6, 8, 9] (tNotM (tTru (eCall (callM (f__law_same 8)) (aCons (eLst (aCons (evar 8) (aCons (evar 9) aNil))) (aCons (eLst (aCons (eCall (callM f__law_cut) (aCons (eBin fAdd (eBin fMul (eBin fIx (evar 5) (cst (.int 0))) (eBin fIx (evar 6) (cst (.int 1)))) (eBin fMul (eBin fIx (evar 6) (cst (.int 0))) (eBin fIx (evar 5) (cst (.int 1))))) (aCons (eBin fMul (eBin fIx (evar 5) (cst (.int 1))) (eBin fIx (evar 6) (cst (.int 1)))) aNil))) (aCons (eCall (callM f__law_cut) (aCons (eBin fMul (eBin fIx (evar 5) (cst (.int 0))) (eBin fIx (evar 6) (cst (.int 0)))) (aCons (eBin fMul (eBin fIx (evar 5) (cst (.int 1))) (eBin fIx (evar 6) (cst (.int 1)))) aNil))) aNil))) aNil)))))) (sRet (cst (.bl false))) sNil)
  (sSeq (sIf (frT [5, 6, 7, 8, 9] (tOrM (tBl (eBin (fEq true) (eCall (callM f_fraction_sum) (aCons (evar 8) (aCons (evar 7) aNil))) (eCall (callM f_fraction_sum) (aCons (evar 5) (aCons (eCall (callM f_fraction_sum) (aCons (evar 6) (aCons (evar 7) aNil))) aNil))))) (tOrM (tBl (eBin (fEq true) (eCall (callM f_fraction_product) (aCons (evar 9) (aCons (evar 7) aNil))) (eCall (callM f_fraction_product) (aCons (evar 5) (aCons (eCall (callM f_fraction_product) (aCons (evar 6) (aCons (evar 7) aNil))) aNil))))) (tOrM (tBl (eBin (fEq true) (evar 8) (eCall (callM f_fraction_sum) (aCons (evar 6) (aCons (evar 5) aNil))))) (tBl (eBin (fEq true) (evar 9) (eCall (callM f_fraction_product) (aCons (evar 6) (aCons (evar 5) aNil))))))))) (sRet (cst (.bl false))) sNil)
  (sSeq (sIf (frT [5, 6, 7, 9] (tOrM (tBl (eBin (fEq true) (eCall (callM f_fraction_product) (aCons (evar 5) (aCons (eCall (callM f_fraction_sum) (aCons (evar 6) (aCons (evar 7) aNil))) aNil))) (eCall (callM f_fraction_sum) (aCons (evar 9) (aCons (eCall (callM f_fraction_product) (aCons (evar 5) (aCons (evar 7) aNil))) aNil))))) (tOrM (tBl (eBin (fEq true) (eCall (callM f_fraction_sum) (aCons (evar 5) (aCons (eTup (aCons (cst (.int 0)) (aCons (cst (.int 1)) aNil))) aNil))) (evar 5))) (tOrM (tBl (eBin (fEq true) (eCall (callM f_fraction_product) (aCons (evar 5) (aCons (eTup (aCons (cst (.int 1)) (aCons (cst (.int 1)) aNil))) aNil))) (evar 5))) (tBl (eBin (fEq true) (eCall (callM f_fraction_product) (aCons (evar 5) (aCons (eTup (aCons (cst (.int 0)) (aCons (cst (.int 1)) aNil))) aNil))) (eTup (aCons (cst (.int 0)) (aCons (cst (.int 1)) aNil))))))))) (sRet (cst (.bl false))) sNil)
  (sSeq (sIf (frT [5, 6] (tOrM (tBl (eBin (fEq true) (eCall (callM f_fraction_sum) (aCons (evar 5) (aCons (eTup (aCons (eBin fSub (cst (.int 0)) (eBin fIx (evar 5) (cst (.int 0)))) (aCons (eBin fIx (evar 5) (cst (.int 1))) aNil))) aNil))) (eTup (aCons (cst (.int 0)) (aCons (cst (.int 1)) aNil))))) (tBl (eBin (fEq true) (eBin (fEq false) (eCall (callM f_over2) (aCons (evar 5) (aCons (evar 6) aNil))) (eLst (aCons (cst (.str "cannot")) (aCons (cst (.bl true)) aNil)))) (eBin (fEq false) (evar 6) (eTup (aCons (cst (.int 0)) (aCons (cst (.int 1)) aNil)))))))) (sRet (cst (.bl false))) sNil)
  (sSeq (sIf (frT [5, 6] (tAndM (tBl (eBin (fEq true) (evar 6) (eTup (aCons (cst (.int 0)) (aCons (cst (.int 1)) aNil))))) (tOrM (tBl (eBin (fEq true) (eCall (callM f_fraction_product) (aCons (eCall (callM f_over2) (aCons (evar 5) (aCons (evar 6) aNil))) (aCons (evar 6) aNil))) (evar 5))) (tOrM (tBl (eBin (fEq true) (eCall (callM f_over2) (aCons (evar 6) (aCons (evar 6) aNil))) (eTup (aCons (cst (.int 1)) (aCons (cst (.int 1)) aNil))))) (tBl (eBin (fEq true) (eCall (callM f_over2) (aCons (evar 5) (aCons (evar 6) aNil))) (eCall (callM f_fraction_product) (aCons (evar 5) (aCons (eCall (callM f_over2) (aCons (eTup (aCons (cst (.int 1)) (aCons (cst (.int 1)) aNil))) (aCons (evar 6) aNil))) aNil))))))))) (sRet (cst (.bl false))) sNil)
  (sSeq (sPar 10 11 (aCons (eCall (callM f__law_take) (aCons (evar 1) (aCons (cst (.int 8)) aNil))) (aCons (eCall (callM f__law_take) (aCons (evar 1) (aCons (cst (.int 8)) aNil))) aNil)))
  (sSeq (sPat (.nm 12) (frE [5, 10] (eCall (callM f_fraction_power) (aCons (evar 5) (aCons (evar 10) aNil)))))
  (sSeq (sIf (frT [5, 10, 11, 12] (tOrM (tBl (eBin (fEq true) (evar 12) (eCall (callM f__law_pow) (aCons (evar 5) (aCons (evar 10) aNil))))) (tOrM (tBl (eBin (fEq true) (eCall (callM f_fraction_product) (aCons (evar 12) (aCons (eCall (callM f_fraction_power) (aCons (evar 5) (aCons (evar 11) aNil))) aNil))) (eCall (callM f_fraction_power) (aCons (evar 5) (aCons (eBin fAdd (evar 10) (evar 11)) aNil))))) (tOrM (tBl (eBin (fEq true) (eCall (callM f_fraction_power) (aCons (evar 5) (aCons (cst (.int 0)) aNil))) (eTup (aCons (cst (.int 1)) (aCons (cst (.int 1)) aNil))))) (tBl (eBin (fEq true) (eCall (callM f_fraction_power) (aCons (evar 5) (aCons (cst (.int 1)) aNil))) (evar 5))))))) (sRet (cst (.bl false))) sNil)
  (sSeq (sPat (.nm 13) (frE [1] (eBin fAdd (cst (.int 1)) (eCall (callM f__law_take) (aCons (evar 1) (aCons (cst (.int 50)) aNil))))))
  (sSeq (sIf (tOrM (tBl (eBin (fCmp gtI) (eBin fMul (eCall (f1 gAbs) (aCons (eBin fIx (evar 5) (cst (.int 0))) aNil)) (evar 13)) (eBin fPow (cst (.int 10)) (cst (.int 6))))) (tBl (eBin (fCmp gtI) (eBin fMul (eBin fIx (evar 5) (cst (.int 1))) (evar 13)) (eBin fPow (cst (.int 10)) (cst (.int 6)))))) (sPat (.nm 13) (cst (.int 1))) sNil)
  (sIf (frT [5, 13] (tOrM (tBl (eBin (fEq true) (eCall (callM f_fraction) (aCons (eBin fSub (cst (.int 0)) (eBin fMul (eBin fIx (evar 5) (cst (.int 0))) (evar 13))) (aCons (eBin fSub (cst (.int 0)) (eBin fMul (eBin fIx (evar 5) (cst (.int 1))) (evar 13))) aNil))) (evar 5))) (tBl (eBin (fEq true) (eCall (callM f_fraction) (aCons (eBin fMul (eBin fIx (evar 5) (cst (.int 0))) (evar 13)) (aCons (eBin fSub (cst (.int 0)) (eBin fMul (eBin fIx (evar 5) (cst (.int 1))) (evar 13))) aNil))) (eTup (aCons (eBin fSub (cst (.int 0)) (eBin fIx (evar 5) (cst (.int 0)))) (aCons (eBin fIx (evar 5) (cst (.int 1))) aNil))))))) (sRet (cst (.bl false))) sNil)))))))))))))))))
  (sRet (cst (.bl true)))))
def f_law : FX := mkFn 16 1 m_law
theorem ar_law : Ar 1 f_law := ar_mk
theorem d_law (hh : HH K mg) (B : Bn mg) (hX : InF X N_law (defScope s_law)) (G : Gx X P w K mg base) (hr : Room 12 X.A) : RSs X (defBody s_law) m_law :=
  (rss_cons (rs_set (hX.lo (by kernel_rfl)) (re_fr [0] (re_call hX.toIn G (c__law_box (base := base) (w := w) hh B) ar__law_box hr (by first | decide | omega) (by kernel_rfl) (ra_cons (re_call hX.toIn G (c__law_cells (base := base) (w := w) hh B) ar__law_cells hr (by first | decide | omega) (by kernel_rfl) (ra_cons (re_var hX.toIn (by kernel_rfl)) (ra_cons re_int ra_nil))) (ra_cons re_int ra_nil)))))
  (rss_cons (rs_for hX.toIn (ri_range1 hX.toIn (by kernel_rfl) (G.no B (x := "range") (by kernel_rfl)) re_int) (rg_name (hX.lo (by kernel_rfl))) (rss_cons (rs_set (hX.lo (by kernel_rfl)) (re_fr [1] (re_call hX.toIn G (c__law_of (base := base) (w := w) hh B) ar__law_of hr (by first | decide | omega) (by kernel_rfl) (ra_cons (re_var hX.toIn (by kernel_rfl)) (ra_cons (re_lst (ra_cons re_int (ra_cons re_int (ra_cons (re_op o_pow re_int re_int) ra_nil)))) ra_nil)))))
  (rss_cons (rs_setC hX.toIn (vs := [1, 3]) (by kernel_rfl) (by kernel_rfl) (by intro env he; cases env; cases he; rfl) (own := [("k", 14)]) (p := (.nm 14)) (t := tYesM) (ri_range1 hX.toIn (by kernel_rfl) (G.no B (x := "range") (by kernel_rfl)) re_int) (by kernel_rfl) (by rfl) (fun _ _ _ _ _ => (rg_name (hX.toIn.loB (by kernel_rfl)))) (fun _ _ _ _ _ => rts_none) (fun _ _ _ _ _ => (re_fr [1, 3] (re_callK hX.toIn.blk G.blk (c_fraction (base := base) (w := w) hh B) ar_fraction hr (by first | decide | omega) (by kernel_rfl) (rk_cons (re_op o_sub (re_call hX.toIn.blk G.blk (c__law_take (base := base) (w := w) hh B) ar__law_take hr (by first | decide | omega) (by kernel_rfl) (ra_cons (re_var hX.toIn.blk (by kernel_rfl)) (ra_cons (re_op o_add (re_op o_mul re_int (re_var hX.toIn.blk (by kernel_rfl))) re_int) ra_nil))) (re_var hX.toIn.blk (by kernel_rfl))) (rk_cons (re_op o_add re_int (re_call hX.toIn.blk G.blk (c__law_take (base := base) (w := w) hh B) ar__law_take hr (by first | decide | omega) (by kernel_rfl) (ra_cons (re_var hX.toIn.blk (by kernel_rfl)) (ra_cons (re_var hX.toIn.blk (by kernel_rfl)) ra_nil)))) rk_nil))))))
  (rss_cons (rs_asg (rg_tup hX.toIn (rgs_cons (hX.lo (by kernel_rfl)) (rgs_cons (hX.lo (by kernel_rfl)) (rgs_cons (hX.lo (by kernel_rfl)) rgs_nil)))) (re_var hX.toIn (by kernel_rfl)))
  (rss_cons (rs_if (rt_fr [4] (rt_cmp (o_ne hX.toIn) (re_comp hX.toIn (own := [("own", 15)]) (p := (.nm 15)) (t := (frT [15] (tOrM (tBl (eBin (fIs true) (eCall (callM f_is_fraction) (aCons (evar 15) aNil)) (cst (.bl true)))) (tBl (eBin (fEq true) (eCall (callM f__law_gcd) (aCons (eBin fIx (evar 15) (cst (.int 0))) (aCons (eBin fIx (evar 15) (cst (.int 1))) aNil))) (cst (.int 1))))))) (ri_of (re_var hX.toIn (by kernel_rfl))) (by kernel_rfl) (by rfl) (fun _ _ _ _ _ => (rg_name (hX.toIn.loB (by kernel_rfl)))) (fun _ _ _ _ _ => (rts_if (rt_fr [15] (PW.pt (rw_or (rt_cmp o_isnot (re_callK hX.toIn.blk G.blk (c_is_fraction (base := base) (w := w) hh B) ar_is_fraction hr (by first | decide | omega) (by kernel_rfl) (rk_cons (re_var hX.toIn.blk (by kernel_rfl)) rk_nil)) re_bl (nomark _)) (rw_or1 (rt_cmp (o_ne hX.toIn.blk) (re_call hX.toIn.blk G.blk (c__law_gcd (base := base) (w := w) hh B) ar__law_gcd hr (by first | decide | omega) (by kernel_rfl) (ra_cons (re_ix (re_var hX.toIn.blk (by kernel_rfl)) re_int) (ra_cons (re_ix (re_var hX.toIn.blk (by kernel_rfl)) re_int) ra_nil))) re_int (nomark _)))))))) (fun _ _ _ _ _ => (re_var hX.toIn.blk (by kernel_rfl)))) (re_lst ra_nil) (nomark _))) (rss_one (rs_ret re_bl)) rss_nil)
  (rss_cons (rs_par hX.toIn (by kernel_rfl) (by kernel_rfl) (by rfl) (by kernel_rfl) (by kernel_rfl) (ra_cons (re_callK hX.toIn G (c_fraction_sum (base := base) (w := w) hh B) ar_fraction_sum hr (by first | decide | omega) (by kernel_rfl) (rk_cons (re_var hX.toIn (by kernel_rfl)) (rk_cons (re_var hX.toIn (by kernel_rfl)) rk_nil))) (ra_cons (re_callK hX.toIn G (c_fraction_product (base := base) (w := w) hh B) ar_fraction_product hr (by first | decide | omega) (by kernel_rfl) (rk_cons (re_var hX.toIn (by kernel_rfl)) (rk_cons (re_var hX.toIn (by kernel_rfl)) rk_nil))) ra_nil)) (by intro env he; cases env; cases he; rfl))
  (rss_cons (rs_if (rt_fr [5, 6, 8, 9] (rt_not (rt_tru (re_call hX.toIn G (c__law_same (base := base) (w := w) hh B 8) (ar__law_same 8) hr (by first | decide | omega) (by kernel_rfl) (ra_cons (re_lst (ra_cons (re_var hX.toIn (by kernel_rfl)) (ra_cons (re_var hX.toIn (by kernel_rfl)) ra_nil))) (ra_cons (re_lst (ra_cons (re_call hX.toIn G (c__law_cut (base := base) (w := w) hh B) ar__law_cut hr (by first | decide | omega) (by kernel_rfl) (ra_cons (re_op o_add (re_op o_mul (re_ix (re_var hX.toIn (by kernel_rfl)) re_int) (re_ix (re_var hX.toIn (by kernel_rfl)) re_int)) (re_op o_mul (re_ix (re_var hX.toIn (by kernel_rfl)) re_int) (re_ix (re_var hX.toIn (by kernel_rfl)) re_int))) (ra_cons (re_op o_mul (re_ix (re_var hX.toIn (by kernel_rfl)) re_int) (re_ix (re_var hX.toIn (by kernel_rfl)) re_int)) ra_nil))) (ra_cons (re_call hX.toIn G (c__law_cut (base := base) (w := w) hh B) ar__law_cut hr (by first | decide | omega) (by kernel_rfl) (ra_cons (re_op o_mul (re_ix (re_var hX.toIn (by kernel_rfl)) re_int) (re_ix (re_var hX.toIn (by kernel_rfl)) re_int)) (ra_cons (re_op o_mul (re_ix (re_var hX.toIn (by kernel_rfl)) re_int) (re_ix (re_var hX.toIn (by kernel_rfl)) re_int)) ra_nil))) ra_nil))) ra_nil)))))) (rss_one (rs_ret re_bl)) rss_nil)
  (rss_cons (rs_if (rt_fr [5, 6, 7, 8, 9] (PW.pt (rw_or (rt_cmp (o_ne hX.toIn) (re_call hX.toIn G (c_fraction_sum (base := base) (w := w) hh B) ar_fraction_sum hr (by first | decide | omega) (by kernel_rfl) (ra_cons (re_var hX.toIn (by kernel_rfl)) (ra_cons (re_var hX.toIn (by kernel_rfl)) ra_nil))) (re_call hX.toIn G (c_fraction_sum (base := base) (w := w) hh B) ar_fraction_sum hr (by first | decide | omega) (by kernel_rfl) (ra_cons (re_var hX.toIn (by kernel_rfl)) (ra_cons (re_call hX.toIn G (c_fraction_sum (base := base) (w := w) hh B) ar_fraction_sum hr (by first | decide | omega) (by kernel_rfl) (ra_cons (re_var hX.toIn (by kernel_rfl)) (ra_cons (re_var hX.toIn (by kernel_rfl)) ra_nil))) ra_nil))) (nomark _)) (rw_or (rt_cmp (o_ne hX.toIn) (re_call hX.toIn G (c_fraction_product (base := base) (w := w) hh B) ar_fraction_product hr (by first | decide | omega) (by kernel_rfl) (ra_cons (re_var hX.toIn (by kernel_rfl)) (ra_cons (re_var hX.toIn (by kernel_rfl)) ra_nil))) (re_call hX.toIn G (c_fraction_product (base := base) (w := w) hh B) ar_fraction_product hr (by first | decide | omega) (by kernel_rfl) (ra_cons (re_var hX.toIn (by kernel_rfl)) (ra_cons (re_call hX.toIn G (c_fraction_product (base := base) (w := w) hh B) ar_fraction_product hr (by first | decide | omega) (by kernel_rfl) (ra_cons (re_var hX.toIn (by kernel_rfl)) (ra_cons (re_var hX.toIn (by kernel_rfl)) ra_nil))) ra_nil))) (nomark _)) (rw_or (rt_cmp (o_ne hX.toIn) (re_var hX.toIn (by kernel_rfl)) (re_call hX.toIn G (c_fraction_sum (base := base) (w := w) hh B) ar_fraction_sum hr (by first | decide | omega) (by kernel_rfl) (ra_cons (re_var hX.toIn (by kernel_rfl)) (ra_cons (re_var hX.toIn (by kernel_rfl)) ra_nil))) (nomark _)) (rw_or1 (rt_cmp (o_ne hX.toIn) (re_var hX.toIn (by kernel_rfl)) (re_call hX.toIn G (c_fraction_product (base := base) (w := w) hh B) ar_fraction_product hr (by first | decide | omega) (by kernel_rfl) (ra_cons (re_var hX.toIn (by kernel_rfl)) (ra_cons (re_var hX.toIn (by kernel_rfl)) ra_nil))) (nomark _)))))))) (rss_one (rs_ret re_bl)) rss_nil)
  (rss_cons (rs_if (rt_fr [5, 6, 7, 9] (PW.pt (rw_or (rt_cmp (o_ne hX.toIn) (re_call hX.toIn G (c_fraction_product (base := base) (w := w) hh B) ar_fraction_product hr (by first | decide | omega) (by kernel_rfl) (ra_cons (re_var hX.toIn (by kernel_rfl)) (ra_cons (re_call hX.toIn G (c_fraction_sum (base := base) (w := w) hh B) ar_fraction_sum hr (by first | decide | omega) (by kernel_rfl) (ra_cons (re_var hX.toIn (by kernel_rfl)) (ra_cons (re_var hX.toIn (by kernel_rfl)) ra_nil))) ra_nil))) (re_call hX.toIn G (c_fraction_sum (base := base) (w := w) hh B) ar_fraction_sum hr (by first | decide | omega) (by kernel_rfl) (ra_cons (re_var hX.toIn (by kernel_rfl)) (ra_cons (re_call hX.toIn G (c_fraction_product (base := base) (w := w) hh B) ar_fraction_product hr (by first | decide | omega) (by kernel_rfl) (ra_cons (re_var hX.toIn (by kernel_rfl)) (ra_cons (re_var hX.toIn (by kernel_rfl)) ra_nil))) ra_nil))) (nomark _)) (rw_or (rt_cmp (o_ne hX.toIn) (re_call hX.toIn G (c_fraction_sum (base := base) (w := w) hh B) ar_fraction_sum hr (by first | decide | omega) (by kernel_rfl) (ra_cons (re_var hX.toIn (by kernel_rfl)) (ra_cons (re_tup (ra_cons re_int (ra_cons re_int ra_nil))) ra_nil))) (re_var hX.toIn (by kernel_rfl)) (nomark _)) (rw_or (rt_cmp (o_ne hX.toIn) (re_call hX.toIn G (c_fraction_product (base := base) (w := w) hh B) ar_fraction_product hr (by first | decide | omega) (by kernel_rfl) (ra_cons (re_var hX.toIn (by kernel_rfl)) (ra_cons (re_tup (ra_cons re_int (ra_cons re_int ra_nil))) ra_nil))) (re_var hX.toIn (by kernel_rfl)) (nomark _)) (rw_or1 (rt_cmp (o_ne hX.toIn) (re_call hX.toIn G (c_fraction_product (base := base) (w := w) hh B) ar_fraction_product hr (by first | decide | omega) (by kernel_rfl) (ra_cons (re_var hX.toIn (by kernel_rfl)) (ra_cons (re_tup (ra_cons re_int (ra_cons re_int ra_nil))) ra_nil))) (re_tup (ra_cons re_int (ra_cons re_int ra_nil))) (nomark _)))))))) (rss_one (rs_ret re_bl)) rss_nil)
  (rss_cons (rs_if (rt_fr [5, 6] (PW.pt (rw_or (rt_cmp (o_ne hX.toIn) (re_call hX.toIn G (c_fraction_sum (base := base) (w := w) hh B) ar_fraction_sum hr (by first | decide | omega) (by kernel_rfl) (ra_cons (re_var hX.toIn (by kernel_rfl)) (ra_cons (re_tup (ra_cons (re_op o_sub re_int (re_ix (re_var hX.toIn (by kernel_rfl)) re_int)) (ra_cons (re_ix (re_var hX.toIn (by kernel_rfl)) re_int) ra_nil))) ra_nil))) (re_tup (ra_cons re_int (ra_cons re_int ra_nil))) (nomark _)) (rw_or1 (rt_cmp (o_ne hX.toIn) (re_cmp (o_eq hX.toIn) (re_call hX.toIn G (c_over2 (base := base) (w := w) hh B) ar_over2 hr (by first | decide | omega) (by kernel_rfl) (ra_cons (re_var hX.toIn (by kernel_rfl)) (ra_cons (re_var hX.toIn (by kernel_rfl)) ra_nil))) (re_lst (ra_cons re_str (ra_cons re_bl ra_nil))) (nomark _)) (re_cmp (o_eq hX.toIn) (re_var hX.toIn (by kernel_rfl)) (re_tup (ra_cons re_int (ra_cons re_int ra_nil))) (nomark _)) (nomark _)))))) (rss_one (rs_ret re_bl)) rss_nil)
  (rss_cons (rs_if (rt_fr [5, 6] (PW.pt (rw_and (rt_cmp (o_ne hX.toIn) (re_var hX.toIn (by kernel_rfl)) (re_tup (ra_cons re_int (ra_cons re_int ra_nil))) (nomark _)) (rw_and1 (PW.pt (rw_or (rt_cmp (o_ne hX.toIn) (re_call hX.toIn G (c_fraction_product (base := base) (w := w) hh B) ar_fraction_product hr (by first | decide | omega) (by kernel_rfl) (ra_cons (re_call hX.toIn G (c_over2 (base := base) (w := w) hh B) ar_over2 hr (by first | decide | omega) (by kernel_rfl) (ra_cons (re_var hX.toIn (by kernel_rfl)) (ra_cons (re_var hX.toIn (by kernel_rfl)) ra_nil))) (ra_cons (re_var hX.toIn (by kernel_rfl)) ra_nil))) (re_var hX.toIn (by kernel_rfl)) (nomark _)) (rw_or (rt_cmp (o_ne hX.toIn) (re_call hX.toIn G (c_over2 (base := base) (w := w) hh B) ar_over2 hr (by first | decide | omega) (by kernel_rfl) (ra_cons (re_var hX.toIn (by kernel_rfl)) (ra_cons (re_var hX.toIn (by kernel_rfl)) ra_nil))) (re_tup (ra_cons re_int (ra_cons re_int ra_nil))) (nomark _)) (rw_or1 (rt_cmp (o_ne hX.toIn) (re_call hX.toIn G (c_over2 (base := base) (w := w) hh B) ar_over2 hr (by first | decide | omega) (by kernel_rfl) (ra_cons (re_var hX.toIn (by kernel_rfl)) (ra_cons (re_var hX.toIn (by kernel_rfl)) ra_nil))) (re_call hX.toIn G (c_fraction_product (base := base) (w := w) hh B) ar_fraction_product hr (by first | decide | omega) (by kernel_rfl) (ra_cons (re_var hX.toIn (by kernel_rfl)) (ra_cons (re_call hX.toIn G (c_over2 (base := base) (w := w) hh B) ar_over2 hr (by first | decide | omega) (by kernel_rfl) (ra_cons (re_tup (ra_cons re_int (ra_cons re_int ra_nil))) (ra_cons (re_var hX.toIn (by kernel_rfl)) ra_nil))) ra_nil))) (nomark _)))))))))) (rss_one (rs_ret re_bl)) rss_nil)
  (rss_cons (rs_par hX.toIn (by kernel_rfl) (by kernel_rfl) (by rfl) (by kernel_rfl) (by kernel_rfl) (ra_cons (re_call hX.toIn G (c__law_take (base := base) (w := w) hh B) ar__law_take hr (by first | decide | omega) (by kernel_rfl) (ra_cons (re_var hX.toIn (by kernel_rfl)) (ra_cons re_int ra_nil))) (ra_cons (re_call hX.toIn G (c__law_take (base := base) (w := w) hh B) ar__law_take hr (by first | decide | omega) (by kernel_rfl) (ra_cons (re_var hX.toIn (by kernel_rfl)) (ra_cons re_int ra_nil))) ra_nil)) (by intro env he; cases env; cases he; rfl))
  (rss_cons (rs_set (hX.lo (by kernel_rfl)) (re_fr [5, 10] (re_callK hX.toIn G (c_fraction_power (base := base) (w := w) hh B) ar_fraction_power hr (by first | decide | omega) (by kernel_rfl) (rk_cons (re_var hX.toIn (by kernel_rfl)) (rk_cons (re_var hX.toIn (by kernel_rfl)) rk_nil)))))
  (rss_cons (rs_if (rt_fr [5, 10, 11, 12] (PW.pt (rw_or (rt_cmp (o_ne hX.toIn) (re_var hX.toIn (by kernel_rfl)) (re_call hX.toIn G (c__law_pow (base := base) (w := w) hh B) ar__law_pow hr (by first | decide | omega) (by kernel_rfl) (ra_cons (re_var hX.toIn (by kernel_rfl)) (ra_cons (re_var hX.toIn (by kernel_rfl)) ra_nil))) (nomark _)) (rw_or (rt_cmp (o_ne hX.toIn) (re_call hX.toIn G (c_fraction_product (base := base) (w := w) hh B) ar_fraction_product hr (by first | decide | omega) (by kernel_rfl) (ra_cons (re_var hX.toIn (by kernel_rfl)) (ra_cons (re_call hX.toIn G (c_fraction_power (base := base) (w := w) hh B) ar_fraction_power hr (by first | decide | omega) (by kernel_rfl) (ra_cons (re_var hX.toIn (by kernel_rfl)) (ra_cons (re_var hX.toIn (by kernel_rfl)) ra_nil))) ra_nil))) (re_call hX.toIn G (c_fraction_power (base := base) (w := w) hh B) ar_fraction_power hr (by first | decide | omega) (by kernel_rfl) (ra_cons (re_var hX.toIn (by kernel_rfl)) (ra_cons (re_op o_add (re_var hX.toIn (by kernel_rfl)) (re_var hX.toIn (by kernel_rfl))) ra_nil))) (nomark _)) (rw_or (rt_cmp (o_ne hX.toIn) (re_call hX.toIn G (c_fraction_power (base := base) (w := w) hh B) ar_fraction_power hr (by first | decide | omega) (by kernel_rfl) (ra_cons (re_var hX.toIn (by kernel_rfl)) (ra_cons re_int ra_nil))) (re_tup (ra_cons re_int (ra_cons re_int ra_nil))) (nomark _)) (rw_or1 (rt_cmp (o_ne hX.toIn) (re_call hX.toIn G (c_fraction_power (base := base) (w := w) hh B) ar_fraction_power hr (by first | decide | omega) (by kernel_rfl) (ra_cons (re_var hX.toIn (by kernel_rfl)) (ra_cons re_int ra_nil))) (re_var hX.toIn (by kernel_rfl)) (nomark _)))))))) (rss_one (rs_ret re_bl)) rss_nil)
  (rss_cons (rs_set (hX.lo (by kernel_rfl)) (re_fr [1] (re_op o_add re_int (re_call hX.toIn G (c__law_take (base := base) (w := w) hh B) ar__law_take hr (by first | decide | omega) (by kernel_rfl) (ra_cons (re_var hX.toIn (by kernel_rfl)) (ra_cons re_int ra_nil))))))
  (rss_cons (rs_if (PW.pt (rw_or (rt_cmp o_gt (re_op o_mul (re_callB hX.toIn (x := "abs") (id := "abs") c_abs (by kernel_rfl) (G.no B (x := "abs") (by kernel_rfl)) (by rfl) (ra_cons (re_ix (re_var hX.toIn (by kernel_rfl)) re_int) ra_nil)) (re_var hX.toIn (by kernel_rfl))) (re_op o_pow re_int re_int) (nomark _)) (rw_or1 (rt_cmp o_gt (re_op o_mul (re_ix (re_var hX.toIn (by kernel_rfl)) re_int) (re_var hX.toIn (by kernel_rfl))) (re_op o_pow re_int re_int) (nomark _))))) (rss_one (rs_set (hX.lo (by kernel_rfl)) re_int)) rss_nil)
  (rss_one (rs_if (rt_fr [5, 13] (PW.pt (rw_or (rt_cmp (o_ne hX.toIn) (re_call hX.toIn G (c_fraction (base := base) (w := w) hh B) ar_fraction hr (by first | decide | omega) (by kernel_rfl) (ra_cons (re_op o_sub re_int (re_op o_mul (re_ix (re_var hX.toIn (by kernel_rfl)) re_int) (re_var hX.toIn (by kernel_rfl)))) (ra_cons (re_op o_sub re_int (re_op o_mul (re_ix (re_var hX.toIn (by kernel_rfl)) re_int) (re_var hX.toIn (by kernel_rfl)))) ra_nil))) (re_var hX.toIn (by kernel_rfl)) (nomark _)) (rw_or1 (rt_cmp (o_ne hX.toIn) (re_call hX.toIn G (c_fraction (base := base) (w := w) hh B) ar_fraction hr (by first | decide | omega) (by kernel_rfl) (ra_cons (re_op o_mul (re_ix (re_var hX.toIn (by kernel_rfl)) re_int) (re_var hX.toIn (by kernel_rfl))) (ra_cons (re_op o_sub re_int (re_op o_mul (re_ix (re_var hX.toIn (by kernel_rfl)) re_int) (re_var hX.toIn (by kernel_rfl)))) ra_nil))) (re_tup (ra_cons (re_op o_sub re_int (re_ix (re_var hX.toIn (by kernel_rfl)) re_int)) (ra_cons (re_ix (re_var hX.toIn (by kernel_rfl)) re_int) ra_nil))) (nomark _)))))) (rss_one (rs_ret re_bl)) rss_nil))))))))))))))))))
  (rss_one (rs_ret re_bl))))
theorem c_law (hh : HH K mg) (B : Bn mg) : Cl P w K mg base 13 "law" ["script"] f_law := by
  obtain ⟨a, fd, F, hm⟩ := hh.F_law
  exact cl_of (N := N_law) F hm (by kernel_rfl) (fun _ _ _ _ _ _ us hl => match us, hl with | [_], _ => rfl) (fun _ _ _ _ _ _ us hl => match us, hl with | [_], _ => rfl) fun X hX G hr => d_law hh B hX G hr
theorem fn_law (hh : HH K mg) (B : Bn mg) {a : Addr} {fd : FuncData} (F : Fun K "law" "law" s_law a fd) : FnOk P w K mg base CX0 13 a fd ["script"] (lP K 1 f_law) := fn_ok (N := N_law) F (scB_ok (by kernel_rfl)) fun X hX G hr => d_law hh B hX G hr
theorem bind_law {a : Addr} {fd : FuncData} (F : Fun K "law" "law" s_law a fd) (s : Shared) (u : Value) : BindsTo s fd ⟨[u], []⟩ [("script", u)] := by
  obtain ⟨oc, od, kV, doc, pm, an, cdv, ct, osl, rfl, lk, hcd⟩ := F.ex
  exact .of_eq rfl
end
end Rx.K84

namespace Rx.K84
open PySem PySem.Spec PyProof.Rows L2 Rx
/-! fractions as values -/
abbrev Fr (a b : Int) : W := .tup [.int a, .int b]
def sg (t u : Int) : Int := (Int.gcd t u : Int) * (if 0 < u then 1 else -1)
def lo (t u : Int) : W := Fr (t.fdiv (sg t u)) (u.fdiv (sg t u))
/-- in least terms -/
structure Nrm (a b : Int) : Prop where
  pos : 0 < b
  cop : Int.gcd a b = 1
theorem lo_scale {a b k : Int} (h : Nrm a b) (hk : k ≠ 0) : lo (a * k) (b * k) = Fr a b := by
  have h1 : Int.gcd (a * k) (b * k) = k.natAbs := by rw [Int.gcd_mul_right, h.cop, Nat.one_mul]
  have hs : sg (a * k) (b * k) = k := by
    unfold sg
    rw [h1]
    by_cases hp : 0 < k
    · have : 0 < b * k := Int.mul_pos h.pos hp
      rw [if_pos this, Int.mul_one]
      omega
    · have hn : k < 0 := by omega
      have : b * k < 0 := Int.mul_neg_of_pos_of_neg h.pos hn
      rw [if_neg (by omega)]
      omega
  unfold lo
  rw [hs, Int.mul_fdiv_cancel _ hk, Int.mul_fdiv_cancel _ hk]
theorem nrm_of {t u : Int} (hu : u ≠ 0) : ∃ a b k, Nrm a b ∧ k ≠ 0 ∧ t = a * k ∧ u = b * k := by
  have hg : (Int.gcd t u : Int) ≠ 0 := by
    have := Int.gcd_ne_zero_right (a := t) hu
    omega
  obtain ⟨a, ha⟩ : (Int.gcd t u : Int) ∣ t := Int.gcd_dvd_left ..
  obtain ⟨b, hb⟩ : (Int.gcd t u : Int) ∣ u := Int.gcd_dvd_right ..
  have hc : Int.gcd a b = 1 := by
    have h1 : Int.gcd ((Int.gcd t u : Int) * a) ((Int.gcd t u : Int) * b) = (Int.gcd t u) * Int.gcd a b := by
      rw [Int.gcd_mul_left]
      simp
    rw [← ha, ← hb] at h1
    have hp : 0 < Int.gcd t u := by omega
    have : Int.gcd t u * 1 = Int.gcd t u * Int.gcd a b := by omega
    exact (Nat.eq_of_mul_eq_mul_left hp this).symm
  have hb0 : b ≠ 0 := by
    rintro rfl
    rw [Int.mul_zero] at hb
    exact hu hb
  by_cases hp : 0 < b
  · exact ⟨a, b, Int.gcd t u, ⟨hp, hc⟩, hg, by rw [Int.mul_comm]; exact ha, by rw [Int.mul_comm]; exact hb⟩
  · refine ⟨-a, -b, -(Int.gcd t u : Int), ⟨by omega, by rw [Int.gcd_neg, Int.neg_gcd]; exact hc⟩, by omega, ?_, ?_⟩
    · rw [Int.neg_mul_neg, Int.mul_comm]; exact ha
    · rw [Int.neg_mul_neg, Int.mul_comm]; exact hb
/-- what lo gives -/
theorem lo_nrm {t u : Int} (hu : u ≠ 0) : ∃ a b, lo t u = Fr a b ∧ Nrm a b ∧ a * u = t * b ∧ a.natAbs ≤ t.natAbs ∧ b.natAbs ≤ u.natAbs := by
  obtain ⟨a, b, k, h, hk, rfl, rfl⟩ := nrm_of (t := t) hu
  have hk1 : 1 ≤ k.natAbs := by omega
  refine ⟨a, b, lo_scale h hk, h, by grind, ?_, ?_⟩
  · rw [Int.natAbs_mul]; exact Nat.le_mul_of_pos_right _ hk1
  · rw [Int.natAbs_mul]; exact Nat.le_mul_of_pos_right _ hk1
theorem cop_dvd {b a c : Int} (h : b ∣ a * c) (g : Int.gcd a b = 1) : b ∣ c := by
  have h1 : b.natAbs ∣ a.natAbs * c.natAbs := by
    rw [← Int.natAbs_mul]
    exact Int.natAbs_dvd_natAbs.mpr h
  have h2 : Nat.Coprime b.natAbs a.natAbs := by
    show Nat.gcd b.natAbs a.natAbs = 1
    rw [Nat.gcd_comm]
    exact g
  exact Int.natAbs_dvd_natAbs.mp (Nat.Coprime.dvd_of_dvd_mul_left h2 h1)
theorem nrm_uniq {a b c d : Int} (h : Nrm a b) (h2 : Nrm c d) (e : a * d = c * b) : a = c ∧ b = d := by
  have h1 : b ∣ d := by
    have : b ∣ a * d := ⟨c, by rw [e, Int.mul_comm]⟩
    exact cop_dvd this h.cop
  have h3 : d ∣ b := by
    have : d ∣ c * b := ⟨a, by rw [← e, Int.mul_comm]⟩
    exact cop_dvd this h2.cop
  have hbd : b = d := by
    have a1 := Int.le_of_dvd h2.pos h1
    have a2 := Int.le_of_dvd h.pos h3
    omega
  subst hbd
  exact ⟨Int.eq_of_mul_eq_mul_right (by have := h.pos; omega) e, rfl⟩
theorem lo_eq {t u a b : Int} (hu : u ≠ 0) (h : Nrm a b) (e : a * u = t * b) : lo t u = Fr a b := by
  obtain ⟨c, d, h1, h2, h3, _, _⟩ := lo_nrm (t := t) hu
  have : a * d = c * b := by
    have : u * (a * d) = u * (c * b) := by grind
    exact Int.eq_of_mul_eq_mul_left hu this
  obtain ⟨rfl, rfl⟩ := nrm_uniq h h2 this
  exact h1
/-- one value by two ways -/
theorem lo_lo {t u t' u' : Int} (hu : u ≠ 0) (hu' : u' ≠ 0) (e : t * u' = t' * u) : lo t u = lo t' u' := by
  obtain ⟨a, b, h1, h2, h3, _, _⟩ := lo_nrm (t := t') hu'
  rw [h1]
  refine lo_eq hu h2 ?_
  have : u' * (a * u) = u' * (t * b) := by grind
  exact Int.eq_of_mul_eq_mul_left hu' this
/-! ### the program's functions on them -/
theorem big_of {x : Int} {k : Nat} (h : x.natAbs ≤ 10 ^ k) (hk : k ≤ 2000) : bigOk x = true := by
  unfold bigOk
  rw [Nat.blt_eq]
  refine Nat.lt_of_le_of_lt h (Nat.lt_of_le_of_lt (Nat.pow_le_pow_right (by decide) hk) ?_)
  decide +kernel
theorem sg_ne {t u : Int} (hu : u ≠ 0) : sg t u ≠ 0 := by
  have := Int.gcd_ne_zero_right (a := t) hu
  unfold sg
  split <;> omega
theorem sg_abs {t u : Int} (hu : u ≠ 0) : (sg t u).natAbs ≤ u.natAbs := by
  have h1 : Int.gcd t u ≤ u.natAbs := Nat.le_of_dvd (by omega) (Int.gcd_dvd_natAbs_right ..)
  unfold sg
  split <;> omega
theorem sp_lowest {t u : Int} {st : Sto} (hu : u ≠ 0) (bu : bigOk u = true) : callM f_lowest [.int t, .int u] st = .ok (lo t u) st := by
  have hs : bigOk (sg t u) = true := by
    unfold bigOk at bu ⊢
    rw [Nat.blt_eq] at bu ⊢
    exact Nat.lt_of_le_of_lt (sg_abs hu) bu
  have hd : ∀ x, divC x (sg t u) = true := fun x => by
    unfold divC
    rw [hs, Bool.or_true, Bool.and_true]
    simp [sg_ne hu]
  have ge : t.natAbs.gcd u.natAbs = Int.gcd t u := rfl
  have m1 : ∀ x, mulC x 1 = true := fun x => mulC_r (by decide)
  have m2 : ∀ x, mulC x (-1) = true := fun x => mulC_r (by decide)
  refine callM_ok (s := []) rfl ?_ rfl
  by_cases hp : 0 < u
  · have e : sg t u = (Int.gcd t u : Int) * 1 := by unfold sg; rw [if_pos hp]
    rw [e, Int.mul_one] at hd
    simp only [lo, e]
    simp [f_lowest, m_lowest, mkFn, sSeq, sPat, frE, lowE, pickE, W.low, eBin, eCall, aCons, aNil, evar, cst, R.bind, f2, gGcd, eIf, tBl, fCmp, gtI, hp, fMul, m1, m2, ge, pureR, Pat.set, sRet, eTup, fDiv, fInt, intOk, hd]
  · have e : sg t u = (Int.gcd t u : Int) * (-1) := by unfold sg; rw [if_neg hp]
    rw [e, Int.mul_neg, Int.mul_one] at hd
    simp only [lo, e]
    simp [f_lowest, m_lowest, mkFn, sSeq, sPat, frE, lowE, pickE, W.low, eBin, eCall, aCons, aNil, evar, cst, R.bind, f2, gGcd, eIf, tBl, fCmp, gtI, hp, fMul, m1, m2, ge, pureR, Pat.set, sRet, eTup, fDiv, fInt, intOk, eUn, fNeg, hd]
/-! ### by rational numbers -/
def fr (q : Rat) : W := Fr q.num q.den
theorem nrm_rat (q : Rat) : Nrm q.num q.den := ⟨by have := q.den_pos; omega, q.reduced⟩
theorem cast_ne {b : Int} (h : b ≠ 0) : (b : Rat) ≠ 0 := by
  intro e
  exact h (by exact_mod_cast e)
theorem rat_eq (q : Rat) : q = (q.num : Rat) / ((q.den : Int) : Rat) := by
  rw [← Rat.divInt_eq_div, Rat.num_divInt_den]
theorem den_ne (q : Rat) : ((q.den : Int) : Rat) ≠ 0 := cast_ne (by have := q.den_pos; omega)
theorem rat_of {q : Rat} {t u : Int} (hu : u ≠ 0) (h : q = (t : Rat) / (u : Rat)) : q.num * u = t * q.den := by
  have h1 := rat_eq q
  have h2 := den_ne q
  have h3 := cast_ne hu
  have : (q.num : Rat) * (u : Rat) = (t : Rat) * ((q.den : Int) : Rat) := by grind
  exact_mod_cast this
theorem lo_rat {q : Rat} {t u : Int} (hu : u ≠ 0) (h : q = (t : Rat) / (u : Rat)) : lo t u = fr q := lo_eq hu (nrm_rat q) (rat_of hu h)
/-- sizes -/
structure Sz (k : Nat) (q : Rat) : Prop where
  n : q.num.natAbs ≤ 10 ^ k
  d : q.den ≤ 10 ^ k
theorem Sz.mono {k l : Nat} {q : Rat} (h : Sz k q) (hl : k ≤ l) : Sz l q := ⟨Nat.le_trans h.n (Nat.pow_le_pow_right (by decide) hl), Nat.le_trans h.d (Nat.pow_le_pow_right (by decide) hl)⟩
theorem sz_of {k : Nat} {q : Rat} {t u : Int} (hu : u ≠ 0) (h : q = (t : Rat) / (u : Rat)) (ht : t.natAbs ≤ 10 ^ k) (hu2 : u.natAbs ≤ 10 ^ k) : Sz k q := by
  obtain ⟨a, b, h1, h2, h3, h4, h5⟩ := lo_nrm (t := t) hu
  rw [lo_rat hu h] at h1
  injection h1 with h1
  injection h1 with e1 h1
  injection h1 with e2 h1
  injection e1 with e1
  injection e2 with e2
  rw [← e1] at h4
  rw [← e2] at h5
  exact ⟨Nat.le_trans h4 ht, Nat.le_trans (by simpa using h5) hu2⟩
theorem abs_mul {a b : Int} {k l : Nat} (ha : a.natAbs ≤ 10 ^ k) (hb : b.natAbs ≤ 10 ^ l) : (a * b).natAbs ≤ 10 ^ (k + l) := by
  rw [Int.natAbs_mul, Nat.pow_add]
  exact Nat.mul_le_mul ha hb
theorem abs_add {a b : Int} {k : Nat} (ha : a.natAbs ≤ 10 ^ k) (hb : b.natAbs ≤ 10 ^ k) : (a + b).natAbs ≤ 10 ^ (k + 1) := by
  have := Int.natAbs_add_le a b
  rw [Nat.pow_succ]
  omega
theorem den_abs {q : Rat} {k : Nat} (h : Sz k q) : (q.den : Int).natAbs ≤ 10 ^ k := by simpa using h.d
theorem mul_ok {a b : Int} {k l : Nat} (ha : a.natAbs ≤ 10 ^ k) (hb : b.natAbs ≤ 10 ^ l) (hk : k ≤ 2000) (hl : l ≤ 2000) : mulC a b = true := mulC_b (big_of ha hk) (big_of hb hl)
theorem num_ne {q : Rat} (h : q ≠ 0) : q.num ≠ 0 := by
  intro e
  exact h (Rat.num_eq_zero.mp e)
/-! ### calls -/
theorem sp_number (a : Int) (st : Sto) : callM f_is_number [.int a] st = .ok (.bl true) st := by kernel_rfl
theorem sp_from (a b : Int) (st : Sto) : callM f_is_from [.int a, .int b] st = .ok (.bl (geI a b)) st := by kernel_rfl
theorem sp_tupled (a b : Int) (st : Sto) : callM (f_tupled 8) [Fr a b] st = .ok (Fr a b) st := by kernel_rfl
theorem sp_long (a b : Int) (st : Sto) : callM f_is_long [Fr a b, .int 2] st = .ok (.bl true) st := by kernel_rfl
theorem at0 (x y : W) : L2.atI [x, y] 0 = some x := rfl
theorem at1 (x y : W) : L2.atI [x, y] 1 = some y := rfl
theorem sp_frac {a b : Int} (h : Nrm a b) (st : Sto) : callM f_is_fraction [Fr a b] st = .ok (.bl true) st := by
  have e1 := sp_long a b
  have e2 := sp_number a
  have e3 := sp_from b 1
  have hg : geI b 1 = true := decide_eq_true (by have := h.pos; omega)
  rw [hg] at e3
  have e4 : a.natAbs.gcd b.natAbs = 1 := h.cop
  refine callM_ok (s := []) rfl ?_ rfl
  simp [f_is_fraction, m_is_fraction, mkFn, sSeq, sIf, frT, frE, lowE, pickE, W.low, W.lows, eBin, eCall, aCons, aNil, evar, cst, R.bind, f2, gGcd, tOrM, tNotM, tTru, truR, tru, pureR, pureT, sRet, sNil, fIx, at0, at1, e1, e2, e3, e4]
  kernel_rfl
theorem sp_sure {a b : Int} (h : Nrm a b) (st : Sto) : callM f_sure_fraction [Fr a b] st = .ok (Fr a b) st := by
  have e1 := sp_tupled a b
  have e2 := sp_frac h
  refine callM_ok (s := []) rfl ?_ rfl
  simp [f_sure_fraction, m_sure_fraction, mkFn, sSeq, sIf, sPat, Pat.set, frT, frE, lowE, pickE, W.low, W.lows, eBin, eCall, aCons, aNil, evar, cst, R.bind, tNotM, tTru, truR, tru, pureR, pureT, sRet, sNil, e1, e2]
theorem sp_added {p q : Rat} {k l : Nat} (hp : Sz k p) (hq : Sz l q) (hk : k + l ≤ 900) (st : Sto) : callM f_added [fr p, fr q] st = .ok (fr (p + q)) st := by
  have m1 : mulC p.num q.den = true := mul_ok hp.n (den_abs hq) (by omega) (by omega)
  have m2 : mulC q.num p.den = true := mul_ok hq.n (den_abs hp) (by omega) (by omega)
  have m3 : mulC p.den q.den = true := mul_ok (den_abs hp) (den_abs hq) (by omega) (by omega)
  have hu : (p.den : Int) * (q.den : Int) ≠ 0 := Int.mul_ne_zero (by have := p.den_pos; omega) (by have := q.den_pos; omega)
  have e1 : p + q = ((p.num * q.den + q.num * p.den : Int) : Rat) / (((p.den : Int) * (q.den : Int) : Int) : Rat) := by
    have h1 := rat_eq p
    have h2 := rat_eq q
    have h3 := den_ne p
    have h4 := den_ne q
    rw [Rat.intCast_add, Rat.intCast_mul, Rat.intCast_mul, Rat.intCast_mul]
    grind
  have e2 : ∀ s : Sto, callM f_lowest [.int (p.num * q.den + q.num * p.den), .int ((p.den : Int) * (q.den : Int))] s = .ok (fr (p + q)) s := fun s => by
    rw [sp_lowest hu (big_of (abs_mul (den_abs hp) (den_abs hq)) (by omega)), lo_rat hu e1]
  refine callM_ok (s := []) rfl ?_ rfl
  simp [fr, f_added, m_added, mkFn, frE, lowE, pickE, W.low, W.lows, eBin, eCall, aCons, aNil, evar, cst, R.bind, pureR, sRet, fIx, at0, at1, fMul, fAdd, m1, m2, m3]
  have e3 := e2 []
  unfold fr at e3
  rw [e3]
  rfl
end Rx.K84

namespace Rx.K84
open PySem PySem.Spec PyProof.Rows L2 Rx
theorem den_pos' (q : Rat) : (q.den : Int) ≠ 0 := by have := q.den_pos; omega
theorem rat_mul (p q : Rat) : p * q = ((p.num * q.num : Int) : Rat) / (((p.den : Int) * (q.den : Int) : Int) : Rat) := by
  have h1 := rat_eq p
  have h2 := rat_eq q
  have h3 := den_ne p
  have h4 := den_ne q
  rw [Rat.intCast_mul, Rat.intCast_mul]
  grind
theorem rat_div (p : Rat) {q : Rat} (hq : q ≠ 0) : p / q = ((p.num * q.den : Int) : Rat) / (((p.den : Int) * q.num : Int) : Rat) := by
  have h1 := rat_eq p
  have h2 := rat_eq q
  have h3 := den_ne p
  have h4 := den_ne q
  have h5 := cast_ne (num_ne hq)
  rw [Rat.intCast_mul, Rat.intCast_mul]
  grind
theorem rat_add (p q : Rat) : p + q = ((p.num * q.den + q.num * p.den : Int) : Rat) / (((p.den : Int) * (q.den : Int) : Int) : Rat) := by
  have h1 := rat_eq p
  have h2 := rat_eq q
  have h3 := den_ne p
  have h4 := den_ne q
  rw [Rat.intCast_add, Rat.intCast_mul, Rat.intCast_mul, Rat.intCast_mul]
  grind
theorem dd_ne (p q : Rat) : (p.den : Int) * (q.den : Int) ≠ 0 := Int.mul_ne_zero (den_pos' p) (den_pos' q)
section
variable {p q : Rat} {k l : Nat}
theorem sz_add (hp : Sz k p) (hq : Sz l q) : Sz (k + l + 1) (p + q) :=
  sz_of (dd_ne p q) (rat_add p q) (abs_add (abs_mul hp.n (den_abs hq)) (by rw [Nat.add_comm]; exact abs_mul hq.n (den_abs hp))) (Nat.le_trans (abs_mul (den_abs hp) (den_abs hq)) (Nat.pow_le_pow_right (by decide) (by omega)))
theorem sz_mul (hp : Sz k p) (hq : Sz l q) : Sz (k + l) (p * q) := sz_of (dd_ne p q) (rat_mul p q) (abs_mul hp.n hq.n) (abs_mul (den_abs hp) (den_abs hq))
theorem sz_div (hp : Sz k p) (hq : Sz l q) (h0 : q ≠ 0) : Sz (k + l) (p / q) :=
  sz_of (Int.mul_ne_zero (den_pos' p) (num_ne h0)) (rat_div p h0) (abs_mul hp.n (den_abs hq)) (abs_mul (den_abs hp) hq.n)
theorem sp_times (hp : Sz k p) (hq : Sz l q) (hk : k + l ≤ 900) (st : Sto) : callM f_times [fr p, fr q] st = .ok (fr (p * q)) st := by
  have m1 : mulC p.num q.num = true := mul_ok hp.n hq.n (by omega) (by omega)
  have m3 : mulC p.den q.den = true := mul_ok (den_abs hp) (den_abs hq) (by omega) (by omega)
  have e2 : ∀ s : Sto, callM f_lowest [.int (p.num * q.num), .int ((p.den : Int) * (q.den : Int))] s = .ok (fr (p * q)) s := fun s => by
    rw [sp_lowest (dd_ne p q) (big_of (abs_mul (den_abs hp) (den_abs hq)) (by omega)), lo_rat (dd_ne p q) (rat_mul p q)]
  refine callM_ok (s := []) rfl ?_ rfl
  simp [fr, f_times, m_times, mkFn, frE, lowE, pickE, W.low, W.lows, eBin, eCall, aCons, aNil, evar, cst, R.bind, pureR, sRet, fIx, at0, at1, fMul, fAdd, m1, m3]
  have e3 := e2 []
  unfold fr at e3
  rw [e3]
  rfl
theorem sp_over (hp : Sz k p) (hq : Sz l q) (h0 : q ≠ 0) (hk : k + l ≤ 900) (st : Sto) : callM f_over [fr p, fr q] st = .ok (fr (p / q)) st := by
  have m1 : mulC p.num q.den = true := mul_ok hp.n (den_abs hq) (by omega) (by omega)
  have m3 : mulC p.den q.num = true := mul_ok (den_abs hp) hq.n (by omega) (by omega)
  have hu : (p.den : Int) * q.num ≠ 0 := Int.mul_ne_zero (den_pos' p) (num_ne h0)
  have e2 : ∀ s : Sto, callM f_lowest [.int (p.num * q.den), .int ((p.den : Int) * q.num)] s = .ok (fr (p / q)) s := fun s => by
    rw [sp_lowest hu (big_of (abs_mul (den_abs hp) hq.n) (by omega)), lo_rat hu (rat_div p h0)]
  refine callM_ok (s := []) rfl ?_ rfl
  simp [fr, f_over, m_over, mkFn, frE, lowE, pickE, W.low, W.lows, eBin, eCall, aCons, aNil, evar, cst, R.bind, pureR, sRet, fIx, at0, at1, fMul, fAdd, m1, m3]
  have e3 := e2 []
  unfold fr at e3
  rw [e3]
  rfl
theorem sp_sureR (q : Rat) (st : Sto) : callM f_sure_fraction [fr q] st = .ok (fr q) st := sp_sure (nrm_rat q) st
theorem low_fr (q : Rat) : (fr q).low 0 = true := rfl
theorem sp_sum (hp : Sz k p) (hq : Sz l q) (hk : k + l ≤ 900) (st : Sto) : callM f_fraction_sum [fr p, fr q] st = .ok (fr (p + q)) st := by
  have e1 := sp_added hp hq hk []
  refine callM_ok (s := []) rfl ?_ rfl
  simp [f_fraction_sum, m_fraction_sum, mkFn, frE, lowE, pickE, W.lows, eBin, eCall, aCons, aNil, evar, R.bind, pureR, sRet, sp_sureR, e1, low_fr]
theorem sp_prod (hp : Sz k p) (hq : Sz l q) (hk : k + l ≤ 900) (st : Sto) : callM f_fraction_product [fr p, fr q] st = .ok (fr (p * q)) st := by
  have e1 := sp_times hp hq hk []
  refine callM_ok (s := []) rfl ?_ rfl
  simp [f_fraction_product, m_fraction_product, mkFn, frE, lowE, pickE, W.lows, eBin, eCall, aCons, aNil, evar, R.bind, pureR, sRet, sp_sureR, e1, low_fr]
/-- which is nought -/
theorem zero_fr : fr 0 = .tup [.int 0, .int 1] := rfl
theorem one_fr : fr 1 = .tup [.int 1, .int 1] := rfl
theorem dat_fr (q : Rat) (st : Sto) : dat st deep (fr q) = some (.tuple [.int q.num, .int (q.den : Int)]) := rfl
theorem fr_inj {p q : Rat} (h : p.num = q.num) (h2 : p.den = q.den) : p = q := Rat.ext h h2
/-- == of two -/
theorem eqv_fr (p q : Rat) : PyData.eqv (.tuple [.int p.num, .int (p.den : Int)]) (.tuple [.int q.num, .int (q.den : Int)]) = decide (p = q) := by
  show ((p.num == q.num) && (((p.den : Int) == (q.den : Int)) && true)) = _
  by_cases h : p = q
  · subst h
    simp
  · rw [decide_eq_false h, Bool.and_true]
    by_cases h1 : p.num = q.num
    · have h2 : p.den ≠ q.den := fun z => h (fr_inj h1 z)
      have h3 : ((p.den : Int) == (q.den : Int)) = false := by
        simp only [beq_eq_false_iff_ne, ne_eq]
        omega
      rw [h3, Bool.and_false]
    · simp [h1]
theorem feq_fr (neg : Bool) (p q : Rat) (st : Sto) : fEq neg (fr p) (fr q) st = .ok (.bl (xor neg (decide (p = q)))) st := by
  unfold fEq
  rw [dat_fr, dat_fr]
  simp only [eqv_fr]
theorem sp_fover (hp : Sz k p) (hq : Sz l q) (h0 : q ≠ 0) (hk : k + l ≤ 900) (st : Sto) : callM f_fraction_over [fr p, fr q] st = .ok (fr (p / q)) st := by
  have e1 := sp_over hp hq h0 hk []
  have e2 := feq_fr false q 0 []
  rw [decide_eq_false h0] at e2
  rw [zero_fr] at e2
  refine callM_ok (s := []) rfl ?_ rfl
  simp [f_fraction_over, m_fraction_over, mkFn, sSeq, sPar, sIf, tBl, frE, lowE, pickE, W.lows, eBin, eCall, aCons, aNil, evar, cst, R.bind, pureR, sRet, sNil, sp_sureR, e1, e2, low_fr]
theorem unm_fr (q : Rat) (st : Sto) : callM f__law_unmarked [fr q] st = .ok (fr q) st := by
  show callM f__law_unmarked [.tup [.int q.num, .int q.den]] st = .ok (.tup [.int q.num, .int q.den]) st
  kernel_rfl
theorem sp_lover (hp : Sz k p) (hq : Sz l q) (h0 : q ≠ 0) (hk : k + l ≤ 900) (st : Sto) : callM f_over2 [fr p, fr q] st = .ok (fr (p / q)) st := by
  have e1 := sp_fover hp hq h0 hk []
  refine callM_ok (s := []) rfl ?_ rfl
  have e2 : f__law_over [fr p, fr q] [] = .ok (fr (p / q)) [] := by
    simp [f__law_over, m__law_over, mkFn, sSeq, sPat, Pat.set, seqW, setAll, sPar, sIf, tBl, frE, lowE, pickE, W.lows, eBin, eCall, aCons, aNil, evar, cst, R.bind, pureR, sRet, sNil, eTup, eIf, fIs, unm_fr, e1, low_fr]
  unfold f_over2
  rw [e2]
theorem sp_lover0 (p : Rat) (st : Sto) : callM f_over2 [fr p, fr 0] st = .ok (.ls st.length) (st ++ [.lst [.str "cannot", .bl true]]) := by
  have e2 := feq_fr false 0 0 []
  rw [decide_eq_true rfl] at e2
  have e2' := e2
  rw [zero_fr] at e2'
  have e3 := sp_sureR p []
  have e4 := sp_sureR 0 []
  have hr : raisesB [fr p, fr 0] = true := by
    simp [raisesB, W.lows, low_fr, m_fo, mc_fo, sPar, tBl, eBin, eCall, aCons, aNil, evar, cst, R.bind, sp_sureR]
    rw [show fEq false (fr 0) (W.tup [.int 0, .int 1]) [] = .ok (.bl true) [] from e2]
  have e5 : f__law_over [fr p, fr 0] [] = .err := by
    have e6 : callM f_fraction_over [fr p, fr 0] [] = .err := by
      have : f_fraction_over [fr p, fr 0] [] = .err := by
        simp [f_fraction_over, m_fraction_over, mkFn, sSeq, sPar, sIf, tBl, frE, lowE, pickE, W.lows, eBin, eCall, aCons, aNil, evar, cst, R.bind, pureR, sRet, sNil, sErr, sp_sureR, low_fr]
        rw [show fEq false (fr 0) (W.tup [.int 0, .int 1]) [] = .ok (.bl true) [] from e2]
        rfl
      unfold callM
      rw [if_pos (show W.lows 0 [fr p, fr 0] = true from rfl), this]
      rfl
    simp [f__law_over, m__law_over, mkFn, sSeq, sPat, Pat.set, seqW, setAll, sPar, sIf, tBl, frE, lowE, pickE, W.lows, eBin, eCall, aCons, aNil, evar, cst, R.bind, pureR, sRet, sNil, eTup, eIf, fIs, e6, low_fr]
  refine callM_ls (n := 0) (s := [.lst [.str "cannot", .bl true]]) rfl ?_ rfl rfl
  unfold f_over2
  rw [e5]
  show f_caught [fr p, fr 0] [] = _
  unfold f_caught
  rw [if_pos ⟨rfl, hr⟩]
  rfl
/-- a new one -/
theorem sp_fraction {t u : Int} (hu : u ≠ 0) (bu : bigOk u = true) (st : Sto) : callM f_fraction [.int t, .int u] st = .ok (fr ((t : Rat) / (u : Rat))) st := by
  have e1 : ∀ s, callM f_lowest [.int t, .int u] s = .ok (fr ((t : Rat) / (u : Rat))) s := fun s => by rw [sp_lowest hu bu, lo_rat hu rfl]
  have e2 : ∀ s, fEq false (.int u) (.int 0) s = .ok (.bl false) s := fun s => by
    unfold fEq
    show R.ok (W.bl (xor false (u == 0))) s = _
    have : (u == 0) = false := by simpa using hu
    rw [this]
    rfl
  refine callM_ok (s := []) rfl ?_ rfl
  simp [f_fraction, m_fraction, mkFn, sSeq, sIf, frT, pureT, tBl, tOrM, tNotM, tTru, truR, tru, frE, lowE, pickE, W.low, W.lows, eBin, eCall, aCons, aNil, evar, cst, R.bind, pureR, sRet, sNil, sp_number, e1, e2, low_fr]
end
end Rx.K84

namespace Rx.K84
open PySem PySem.Spec PyProof.Rows L2 Rx
/-! the law's own functions -/
def gB : SX := sPar 0 1 (aCons (evar 1) (aCons (eBin fMod (evar 0) (evar 1)) aNil))
def gC : TX := tBl (eBin (fCmp gtI) (evar 1) (cst (.int 0)))
theorem g_end (m : Nat) (F : Nat) : whileM gC gB (F + 1) [some (.int m), some (.int 0)] [] = .ok (.nx [some (.int m), some (.int 0)]) [] := rfl
theorem g_step (m k F : Nat) (hk : 0 < k) : whileM gC gB (F + 1) [some (.int m), some (.int k)] [] = whileM gC gB F [some (.int k), some (.int ((m % k : Nat) : Int))] [] := by
  have h1 : gtI (k : Int) 0 = true := decide_eq_true (by omega)
  have h2 : modC (m : Int) (k : Int) = true := by
    unfold modC
    simp
    omega
  have h3 : Int.fmod (m : Int) (k : Int) = ((m % k : Nat) : Int) := by
    rw [Int.fmod_eq_emod_of_nonneg _ (by omega)]
    rfl
  have hc : gC [some (.int m), some (.int k)] [] = .ok true [] := by
    simp [gC, tBl, eBin, evar, cst, R.bind, fCmp, h1]
  have hb : gB [some (.int m), some (.int k)] [] = .ok (.nx [some (.int k), some (.int ((m % k : Nat) : Int))]) [] := by
    simp [gB, sPar, aCons, aNil, eBin, evar, R.bind, fMod, fInt, intOk, h2, h3]
  conv => lhs; unfold whileM
  rw [hc]
  simp only []
  rw [hb]
theorem half {k r : Nat} (h : r < k) (h0 : 0 < r) : 2 * (k % r) < k := by
  have h1 := Nat.mod_lt k h0
  by_cases h2 : 2 * r ≤ k
  · omega
  · have : k % r = k - r := by
      rw [Nat.mod_eq_sub_mod (by omega), Nat.mod_eq_of_lt (by omega)]
    omega
theorem g_all : ∀ (n m k F : Nat), k < 2 ^ n → 2 * n + 2 ≤ F → whileM gC gB F [some (.int m), some (.int k)] [] = .ok (.nx [some (.int (Nat.gcd m k : Nat)), some (.int 0)]) []
  | 0, m, k, F, h, hF => by
    have : k = 0 := by simpa using h
    subst this
    obtain ⟨F, rfl⟩ : ∃ G, F = G + 1 := ⟨F - 1, by omega⟩
    rw [Nat.gcd_zero_right]
    exact g_end m F
  | n + 1, m, k, F, h, hF => by
    obtain ⟨F, rfl⟩ : ∃ G, F = G + 2 := ⟨F - 2, by omega⟩
    by_cases hk : k = 0
    · subst hk
      rw [Nat.gcd_zero_right]
      exact g_end m (F + 1)
    · have hk' : 0 < k := by omega
      rw [g_step m k (F + 1) hk']
      by_cases hr : m % k = 0
      · rw [hr]
        have : Nat.gcd m k = k := by rw [Nat.gcd_comm, Nat.gcd_rec, hr, Nat.gcd_zero_left]
        rw [this]
        exact g_end k F
      · have hr' : 0 < m % k := by omega
        rw [g_step k (m % k) F hr']
        have hlt := half (Nat.mod_lt m hk') hr'
        have e := g_all n (m % k) (k % (m % k)) F (by rw [Nat.pow_succ] at h; omega) (by omega)
        rw [e]
        have : Nat.gcd (m % k) (k % (m % k)) = Nat.gcd m k := by
          rw [Nat.gcd_comm (m % k), ← Nat.gcd_rec, ← Nat.gcd_rec, Nat.gcd_comm]
        rw [this]
theorem sp_gcd (a b : Int) (hb : b.natAbs < 2 ^ 490) (st : Sto) : callM f__law_gcd [.int a, .int b] st = .ok (.int (Int.gcd a b)) st := by
  have e := g_all 490 a.natAbs b.natAbs 1000 hb (by decide)
  refine callM_ok (s := []) rfl ?_ rfl
  have e2 : sWhile 1000 (tBl (eBin (fCmp gtI) (evar 1) (cst (.int 0)))) (sPar 0 1 (aCons (evar 1) (aCons (eBin fMod (evar 0) (evar 1)) aNil))) [some (.int a.natAbs), some (.int b.natAbs)] [] = .ok (.nx [some (.int (Nat.gcd a.natAbs b.natAbs : Nat)), some (.int 0)]) [] := e
  have e3 : sPar 0 1 (aCons (eCall (f1 gAbs) (aCons (evar 0) aNil)) (aCons (eCall (f1 gAbs) (aCons (evar 1) aNil)) aNil)) [some (.int a), some (.int b)] [] = .ok (.nx [some (.int a.natAbs), some (.int b.natAbs)]) [] := by
    simp [sPar, eCall, aCons, aNil, evar, R.bind, f1, gAbs]
    constructor <;> split <;> omega
  refine mk_rt rfl ?_
  show m__law_gcd [some (.int a), some (.int b)] [] = _
  unfold m__law_gcd
  rw [seq_nx e3, seq_nx e2]
  rfl
theorem sp_cut {t u : Int} (hu : u ≠ 0) (bu : u.natAbs < 2 ^ 490) (st : Sto) : callM f__law_cut [.int t, .int u] st = .ok (lo t u) st := by
  have bu' : bigOk u = true := by
    unfold bigOk
    rw [Nat.blt_eq]
    exact Nat.lt_trans bu (by decide +kernel)
  have hs : bigOk (sg t u) = true := by
    unfold bigOk at bu' ⊢
    rw [Nat.blt_eq] at bu' ⊢
    exact Nat.lt_of_le_of_lt (sg_abs hu) bu'
  have hd : ∀ x, divC x (sg t u) = true := fun x => by
    unfold divC
    rw [hs, Bool.or_true, Bool.and_true]
    simp [sg_ne hu]
  have e1 := sp_gcd t u bu
  refine callM_ok (s := []) rfl ?_ rfl
  by_cases hp : 0 < u
  · have e : sg t u = (Int.gcd t u : Int) := by unfold sg; rw [if_pos hp, Int.mul_one]
    rw [e] at hd
    simp only [lo, e]
    simp [f__law_cut, m__law_cut, mkFn, sSeq, sPat, frE, lowE, pickE, W.low, eBin, eCall, aCons, aNil, evar, cst, R.bind, e1, eIf, tBl, fCmp, gtI, hp, fSub, pureR, Pat.set, sRet, eTup, fDiv, fInt, intOk, hd]
  · have e : sg t u = 0 - (Int.gcd t u : Int) := by unfold sg; rw [if_neg hp]; omega
    rw [e] at hd
    simp only [lo, e]
    simp [f__law_cut, m__law_cut, mkFn, sSeq, sPat, frE, lowE, pickE, W.low, eBin, eCall, aCons, aNil, evar, cst, R.bind, e1, eIf, tBl, fCmp, gtI, hp, fSub, pureR, Pat.set, sRet, eTup, fDiv, fInt, intOk, yesC]
    have hd2 := hd
    rw [Int.zero_sub] at hd2
    simp [hd2]
end Rx.K84

namespace Rx.K84
open PySem PySem.Spec PyProof.Rows L2 Rx
theorem lt490 {x : Nat} {k : Nat} (h : x ≤ 10 ^ k) (hk : k ≤ 140) : x < 2 ^ 490 :=
  Nat.lt_of_le_of_lt h (Nat.lt_of_le_of_lt (Nat.pow_le_pow_right (by decide) hk) (by decide +kernel))
section
variable {p q : Rat} {k l : Nat}
theorem sp_lmul (hp : Sz k p) (hq : Sz l q) (hk : k + l ≤ 140) (st : Sto) : callM f__law_mul [fr p, fr q] st = .ok (fr (p * q)) st := by
  have m1 : mulC p.num q.num = true := mul_ok hp.n hq.n (by omega) (by omega)
  have m3 : mulC p.den q.den = true := mul_ok (den_abs hp) (den_abs hq) (by omega) (by omega)
  have e2 : ∀ s : Sto, callM f__law_cut [.int (p.num * q.num), .int ((p.den : Int) * (q.den : Int))] s = .ok (fr (p * q)) s := fun s => by
    rw [sp_cut (dd_ne p q) (lt490 (abs_mul (den_abs hp) (den_abs hq)) hk), lo_rat (dd_ne p q) (rat_mul p q)]
  refine callM_ok (s := []) rfl ?_ rfl
  simp [fr, f__law_mul, m__law_mul, mkFn, frE, lowE, pickE, W.low, W.lows, eBin, eCall, aCons, aNil, evar, cst, R.bind, pureR, sRet, fIx, at0, at1, fMul, fAdd, m1, m3]
  have e3 := e2 []
  unfold fr at e3
  rw [e3]
  rfl
theorem sz_one : Sz 0 1 := ⟨by decide, by decide⟩
theorem sz_pow (hp : Sz k p) : ∀ n : Nat, Sz (k * n) (p ^ n)
  | 0 => by
    rw [Rat.pow_zero]
    exact sz_one
  | n + 1 => by
    rw [Rat.pow_succ, Nat.mul_succ]
    exact sz_mul (sz_pow hp n) hp
theorem sp_lpow (hp : Sz k p) (n : Nat) (hn : n ≤ 20) (hk : k * n + k ≤ 140) (st : Sto) : callM f__law_pow [fr p, .int (n : Nat)] st = .ok (fr (p ^ n)) st := by
  refine callM_ok (s := []) rfl ?_ rfl
  have habs : (if ((n : Nat) : Int) < 0 then -((n : Nat) : Int) else ((n : Nat) : Int)) = (n : Int) := if_neg (by omega)
  have hr : rngOk (n : Int) = true := by
    unfold rngOk
    simp
    omega
  obtain ⟨env', st', h1, x, h2, h3⟩ := for_all (Inv := fun j env st => ∃ x, env = [some (fr p), some (.int (n : Nat)), some (fr (p ^ j)), x] ∧ st = []) (i := 3) (xs := rngW 0 1 n)
    (body := sPat (.nm 2) (frE [0, 2] (eCall (callM f__law_mul) (aCons (evar 2) (aCons (evar 0) aNil))))) (env := [some (fr p), some (.int (n : Nat)), some (fr (p ^ 0)), none]) (st := []) ⟨none, rfl, rfl⟩ (by
      rintro j y env st hj ⟨x, rfl, rfl⟩
      have hj' : j < n := by
        have := (List.getElem?_eq_some_iff.mp hj).1
        rw [rngW_len] at this
        exact this
      have e1 := sp_lmul (sz_pow hp j) hp (by have := Nat.mul_le_mul_left k (Nat.le_of_lt hj'); omega) []
      rw [← Rat.pow_succ] at e1
      refine ⟨_, [], ?_, some y, rfl, rfl⟩
      simp [sPat, Pat.set, frE, lowE, pickE, eCall, aCons, aNil, evar, R.bind, pureR, e1, low_fr])
  subst h2 h3
  rw [rngW_len] at h1
  refine mk_rt rfl ?_
  have e0 : sPat (.nm 2) (eTup (aCons (cst (.int 1)) (aCons (cst (.int 1)) aNil))) [some (fr p), some (.int (n : Nat)), none, none] [] = .ok (.nx [some (fr p), some (.int (n : Nat)), some (fr (p ^ 0)), none]) [] := by
    rw [Rat.pow_zero]
    rfl
  have e1 : sFor (iRange (aCons (eCall (f1 gAbs) (aCons (evar 1) aNil)) aNil)) (.nm 3) (sPat (.nm 2) (frE [0, 2] (eCall (callM f__law_mul) (aCons (evar 2) (aCons (evar 0) aNil))))) [some (fr p), some (.int (n : Nat)), some (fr (p ^ 0)), none] [] = .ok (.nx [some (fr p), some (.int (n : Nat)), some (fr (p ^ (rngW 0 1 n).length)), x]) [] := by
    simp [sFor, iRange, eCall, aCons, aNil, evar, R.bind, f1, gAbs, habs, hr, Src.bound, rngW_len]
    rw [Rat.pow_zero] at h1
    exact h1
  have hg : geI (n : Int) 0 = true := decide_eq_true (by omega)
  show m__law_pow [some (fr p), some (.int (n : Nat)), none, none] [] = _
  unfold m__law_pow
  rw [seq_nx e0, seq_nx e1, rngW_len]
  simp [sRet, frE, lowE, pickE, W.low, low_fr, eIf, tBl, eBin, fCmp, hg, evar, cst, R.bind, pureR]
theorem sp_powof {a : Int} (ha : a.natAbs ≤ 10 ^ k) (n : Nat) (hn : n ≤ 20) (hk : k * n + k ≤ 1000) (st : Sto) : callM f_power_of [.int a, .int (n : Nat)] st = .ok (.int (a ^ n)) st := by
  refine callM_ok (s := []) rfl ?_ rfl
  have hr : rngOk (n : Int) = true := by
    unfold rngOk
    simp
    omega
  obtain ⟨env', st', h1, x, h2, h3⟩ := for_all (Inv := fun j env st => ∃ x, env = [some (.int a), some (.int (n : Nat)), some (.int (a ^ j)), x] ∧ st = []) (i := 3) (xs := rngW 0 1 n)
    (body := sPat (.nm 2) (eBin fMul (evar 2) (evar 0))) (env := [some (.int a), some (.int (n : Nat)), some (.int (a ^ 0)), none]) (st := []) ⟨none, rfl, rfl⟩ (by
      rintro j y env st hj ⟨x, rfl, rfl⟩
      have hj' : j < n := by
        have := (List.getElem?_eq_some_iff.mp hj).1
        rw [rngW_len] at this
        exact this
      have hb : (a ^ j).natAbs ≤ 10 ^ (k * j) := by
        rw [Int.natAbs_pow, Nat.pow_mul]
        exact Nat.pow_le_pow_left ha j
      have hkj := Nat.mul_le_mul_left k (Nat.le_of_lt hj')
      have m := mul_ok hb ha (by omega) (by omega)
      refine ⟨_, [], ?_, some y, rfl, rfl⟩
      simp [sPat, Pat.set, eBin, evar, R.bind, fMul, m, Int.pow_succ])
  subst h2 h3
  rw [rngW_len] at h1
  refine mk_rt rfl ?_
  have e0 : sPat (.nm 2) (cst (.int 1)) [some (.int a), some (.int (n : Nat)), none, none] [] = .ok (.nx [some (.int a), some (.int (n : Nat)), some (.int 1), none]) [] := rfl
  have e1 : sFor (iRange (aCons (evar 1) aNil)) (.nm 3) (sPat (.nm 2) (eBin fMul (evar 2) (evar 0))) [some (.int a), some (.int (n : Nat)), some (.int 1), none] [] = .ok (.nx [some (.int a), some (.int (n : Nat)), some (.int (a ^ n)), x]) [] := by
    simp [sFor, iRange, aCons, aNil, evar, R.bind, hr, Src.bound, rngW_len]
    rw [Int.pow_zero] at h1
    exact h1
  show m_power_of [some (.int a), some (.int (n : Nat)), none, none] [] = _
  unfold m_power_of
  rw [seq_nx e0, seq_nx e1]
  rfl
theorem sp_power (hp : Sz k p) (n : Nat) (hn : n ≤ 20) (hk : k * n + k ≤ 1000) (st : Sto) : callM (f_power 8) [fr p, .int (n : Nat)] st = .ok (fr (p ^ n)) st := by
  have e1 := sp_powof hp.n n hn hk
  have e2 := sp_powof (a := (p.den : Int)) (den_abs hp) n hn hk
  have hl : ltI (n : Int) 0 = false := decide_eq_false (by omega)
  refine callM_ok (s := []) rfl ?_ rfl
  have e3 : fr (p ^ n) = .tup [.int (p.num ^ n), .int ((p.den : Int) ^ n)] := by
    unfold fr
    rw [Rat.num_pow, Rat.den_pow]
    push_cast
    rfl
  rw [e3]
  simp [fr, f_power, m_power, mkFn, sSeq, sIf, tBl, frE, lowE, pickE, W.low, W.lows, eBin, fCmp, hl, eCall, aCons, aNil, evar, cst, R.bind, pureR, sRet, sNil, fIx, at0, at1, e1, e2, eTup]
theorem sp_fpower (hp : Sz k p) (n : Nat) (hn : n ≤ 20) (hk : k * n + k ≤ 1000) (st : Sto) : callM f_fraction_power [fr p, .int (n : Nat)] st = .ok (fr (p ^ n)) st := by
  have e1 := sp_power hp n hn hk
  have e2 := sp_from (n : Int) 0
  have hg : geI (n : Int) 0 = true := decide_eq_true (by omega)
  have hg2 : gtI (n : Int) 1000 = false := decide_eq_false (by omega)
  rw [hg] at e2
  refine callM_ok (s := []) rfl ?_ rfl
  simp [f_fraction_power, m_fraction_power, mkFn, sSeq, sIf, sPat, Pat.set, tBl, tOrM, tNotM, tTru, truR, tru, frE, frT, pureT, lowE, pickE, W.low, W.lows, eBin, fCmp, hg2, eCall, aCons, aNil, evar, cst, R.bind, pureR, sRet, sNil, sp_sureR, e1, e2, low_fr]
/-- equal and of the same kinds -/
theorem same_eq (a b c d e f g h : Int) : callM (f__law_same 8) [.ls 0, .ls 1] [.lst [Fr a b, Fr c d], .lst [Fr e f, Fr g h]] =
    .ok (.bl ([[xor false (a == e), xor false (b == f)].all id, [xor false (c == g), xor false (d == h)].all id].all id)) [.lst [Fr a b, Fr c d], .lst [Fr e f, Fr g h]] := by kernel_rfl
theorem same_lists (p q : Rat) : callM (f__law_same 8) [.ls 0, .ls 1] [.lst [fr p, fr q], .lst [fr p, fr q]] = .ok (.bl true) [.lst [fr p, fr q], .lst [fr p, fr q]] := by
  have := same_eq p.num p.den q.num q.den p.num p.den q.num q.den
  simp only [beq_self_eq_true] at this
  exact this
end
end Rx.K84

namespace Rx.K84
open PySem PySem.Spec PyProof.Rows L2 Rx
/-! the drawing of numbers -/
theorem for_gen {src : Src} {p : Pat} {body : SX} {ys : List W} {Inv : Nat → Env' → Sto → Prop} (hat : ∀ j env st, Inv j env st → src.at j st = ys[j]?)
    (hb : ∀ j x env st, ys[j]? = some x → Inv j env st → ∃ e1 env' st', p.set x st env = some e1 ∧ body e1 st = .ok (.nx env') st' ∧ Inv (j + 1) env' st') :
    ∀ (m k : Nat) (env : Env') (st : Sto), k + m = ys.length → Inv k env st → ∃ env' st', forM src p body (m + 1) k env st = .ok (.nx env') st' ∧ Inv ys.length env' st'
  | 0, k, env, st, hk, h => by
    refine ⟨env, st, ?_, by rw [← hk]; exact h⟩
    unfold forM
    rw [hat k env st h, List.getElem?_eq_none (by omega)]
  | m + 1, k, env, st, hk, h => by
    have hx : ys[k]? = some ys[k] := List.getElem?_eq_getElem (by omega)
    obtain ⟨e1, e2, s2, h1, h2, h3⟩ := hb k _ env st hx h
    obtain ⟨e3, s3, h4, h5⟩ := for_gen hat hb m (k + 1) e2 s2 (by omega) h3
    refine ⟨e3, s3, ?_, h5⟩
    unfold forM
    rw [hat k env st h, hx]
    simp only []
    rw [h1]
    simp only []
    rw [h2]
    exact h4
theorem take_a {st : Sto} {n : Nat} {t0 t1 t2 b : Int} (h : st[n]? = some (.lst [.int t0, .int t1, .int t2])) (h0 : 0 < t0) (hb : divC t0 b = true) (hb2 : modC t0 b = true) :
    f__law_take [.ls n, .int b] st = .ok (.int (t0.fmod b)) (st.set n (.lst [.int (t0.fdiv b), .int t1, .int t2])) := by
  have e0 : L2.atI [W.int t0, .int t1, .int t2] 0 = some (.int t0) := rfl
  have ex : ixN 3 0 = some 0 := rfl
  simp [f__law_take, m__law_take, mkFn, sSeq, sIf, tBl, eBin, fCmp, gtI, fIx, evar, cst, R.bind, h, e0, h0, sPat, Pat.set, eCall, aCons, aNil, f1, gInt, fMod, fDiv, fInt, intOk, hb, hb2, sTg, Tg.set, fSet, sRet, ex]
theorem take_b {st : Sto} {n : Nat} {t1 t2 b : Int} (h : st[n]? = some (.lst [.int 0, .int t1, .int t2])) (hbb : ∀ x, modC x b = true) (hm : small63 (39373 + (t2 + 1)) = true) :
    ∃ x, f__law_take [.ls n, .int b] st = .ok (.int (Int.fmod x b)) (st.set n (.lst [.int 0, .int t1, .int (t2 + 1)])) := by
  have hs : ∀ o : Ob, (st.set n o)[n]? = some o := fun o => by rw [List.getElem?_set_self (lt_of_get h)]
  have e2 : L2.atI [W.int 0, .int t1, .int t2] 2 = some (.int t2) := rfl
  have e0 : L2.atI [W.int 0, .int t1, .int t2] 0 = some (.int 0) := rfl
  have e2' : L2.atI [W.int 0, .int t1, .int (t2 + 1)] 2 = some (.int (t2 + 1)) := rfl
  have e1' : L2.atI [W.int 0, .int t1, .int (t2 + 1)] 1 = some (.int t1) := rfl
  have ex : ixN 3 2 = some 2 := rfl
  have c1 : ∀ x, modC x 2147483647 = true := fun _ => rfl
  have c2 : ∀ x, modC x 40009 = true := fun _ => rfl
  have c3 : ∀ x, modC x 2147483629 = true := fun _ => rfl
  have c4 : ∀ x, modC x 2147483587 = true := fun _ => rfl
  have c5 : ∀ x, divC x 64 = true := fun _ => rfl
  have c6 : ∀ x, divC x 1000003 = true := fun _ => rfl
  have m1 : ∀ x, mulC 48271 x = true := fun x => mulC_l (by decide)
  have m2 : ∀ x, mulC x (39373 + (t2 + 1)) = true := fun x => mulC_r hm
  have m3 : ∀ x y, mulC x (Int.fmod y 40009 + 7) = true := fun x y => mulC_r (small63_of (by have := fmod_rng (x := y) (b := 40009) (by decide); omega))
  have m4 : ∀ x, mulC x 48271 = true := fun x => mulC_r (by decide)
  simp [f__law_take, m__law_take, mkFn, sSeq, sIf, tBl, eBin, fCmp, gtI, fIx, evar, cst, R.bind, h, e0, sPat, Pat.set, eCall, aCons, aNil, f1, gInt, fMod, fDiv, fInt, intOk, sTg, Tg.set, fSet, sRet, ex, sNil, e2, e2', e1', fAdd, fMul, hs, m1, m2, m3, m4, c1, c2, c3, c4, c5, c6, hbb]
  exact ⟨_, rfl⟩
/-- the source of draws, so many draws on -/
def Tin (k : Nat) (o : Ob) : Prop := ∃ t0 t1 t2 : Int, o = .lst [.int t0, .int t1, .int t2] ∧ 0 ≤ t0 ∧ 0 ≤ t2 ∧ t2 ≤ k
theorem Tin.mono {k l : Nat} {o : Ob} (h : Tin k o) (hl : k ≤ l) : Tin l o := by
  obtain ⟨t0, t1, t2, h1, h2, h3, h4⟩ := h
  exact ⟨t0, t1, t2, h1, h2, h3, by omega⟩
/-- a draw -/
theorem take_ok {st : Sto} {n k : Nat} {o : Ob} {b : Int} (h : st[n]? = some o) (ht : Tin k o) (hk : k ≤ 1000000) (hb : 0 < b) (hb2 : b ≤ 1000000000) :
    ∃ d o', 0 ≤ d ∧ d < b ∧ Tin (k + 1) o' ∧ callM f__law_take [.ls n, .int b] st = .ok (.int d) (st.set n o') := by
  obtain ⟨t0, t1, t2, rfl, h0, h2, h3⟩ := ht
  have m : ∀ x, modC x b = true := fun x => by
    unfold modC
    simp
    omega
  by_cases hp : 0 < t0
  · have e := take_a (b := b) h hp (by
      unfold divC
      rw [small63_of (by omega)]
      simp
      omega) (m _)
    have hr := fmod_rng (x := t0) hb
    refine ⟨_, _, hr.1, hr.2, ⟨_, _, _, rfl, ?_, h2, by omega⟩, callM_sh rfl e (by rw [List.length_set]) rfl⟩
    rw [Int.fdiv_eq_ediv_of_nonneg _ (by omega)]
    exact Int.ediv_nonneg h0 (by omega)
  · have : t0 = 0 := by omega
    subst this
    obtain ⟨x, e⟩ := take_b (b := b) h m (small63_of (by omega))
    have hr := fmod_rng (x := x) hb
    exact ⟨_, _, hr.1, hr.2, ⟨_, _, _, rfl, by decide, by omega, by omega⟩, callM_sh rfl e (by rw [List.length_set]) rfl⟩
/-- one of a list -/
theorem of_ok {st : Sto} {n m k : Nat} {o : Ob} {gs : List W} (h : st[n]? = some o) (ht : Tin k o) (hk : k ≤ 1000000) (hm : st[m]? = some (.lst gs)) (hmn : m ≠ n) (hg : 0 < gs.length) (hg2 : gs.length ≤ 1000000) (hl : ∀ g ∈ gs, isLs g = false) :
    ∃ (d : Nat) (g : W) (o' : Ob), gs[d]? = some g ∧ Tin (k + 1) o' ∧ callM f__law_of [.ls n, .ls m] st = .ok g (st.set n o') := by
  obtain ⟨d, o', h1, h2, h3, h4⟩ := take_ok h ht hk (b := gs.length) (by omega) (by omega)
  have hd : d.toNat < gs.length := by omega
  have hix : L2.atI gs d = some gs[d.toNat] := by
    unfold L2.atI
    have : ixN gs.length d = some d.toNat := by
      unfold ixN
      rw [if_pos h1, if_pos h2]
    rw [this]
    show gs[d.toNat]? = _
    rw [List.getElem?_eq_getElem hd]
  refine ⟨d.toNat, gs[d.toNat], o', List.getElem?_eq_getElem hd, h3, callM_sh rfl ?_ (by rw [List.length_set]) (hl _ (List.getElem_mem _))⟩
  have hs : (st.set n o')[m]? = some (.lst gs) := by rw [List.getElem?_set_ne (Ne.symm hmn)]; exact hm
  simp [f__law_of, m__law_of, mkFn, sRet, frE, lowE, W.low, eBin, eCall, aCons, aNil, evar, R.bind, f1, gLen, seqW, hm, h4, fIx, hs, hix]
/-- the script's numbers, put together -/
theorem cells_ok (ns : List Int) (h : ns.length ≤ 63) : ∃ c : Int, callM f__law_cells [.frz ns, .int 1] [] = .ok (.ls 0) [.lst [.int c]] := by
  obtain ⟨c0, h0⟩ : ∃ c0 : Int, frE [0, 1] (eOr (eCall (f1 gList) (aCons (eSl (evar 0) oNone (oSome (evar 1))) aNil)) (eLst (aCons (cst (.int 0)) aNil))) [some (.frz ns), some (.int 1), none, none, none, none] [] = .ok (.ls 0) [.lst [.int c0]] := by
    cases ns with
    | nil => exact ⟨0, by kernel_rfl⟩
    | cons n r =>
      refine ⟨n, ?_⟩
      have e : Rx.cutW ((n :: r).map W.int) none (some 1) = [.int n] := by
        unfold Rx.cutW HT.sIx
        simp
      simp [frE, lowE, pickE, W.low, eOr, eCall, aCons, aNil, eSl, evar, oNone, oSome, R.bind, fSl, f1, gList, seqW, truR, tru, pureR, W.lows]
      rw [List.map_cons] at e
      simp [e, W.lows, W.low]
  obtain ⟨ms, hms, h1⟩ : ∃ ms : List Int, ms.length ≤ 63 ∧ frE [0, 1] (eSl (evar 0) (oSome (evar 1)) (oSome (cst (.int 63)))) [some (.frz ns), some (.int 1), some (.ls 0), none, none, none] [.lst [.int c0]] = .ok (.ls 1) [.lst [.int c0], .lst (ms.map W.int)] := by
    have e : ∃ ms : List Int, ms.length ≤ 63 ∧ Rx.cutW (ns.map W.int) (some 1) (some 63) = ms.map W.int := by
      unfold Rx.cutW
      refine ⟨(ns.drop (HT.sIx (ns.map W.int).length 0 (some 1))).take (HT.sIx (ns.map W.int).length (ns.map W.int).length (some 63) - HT.sIx (ns.map W.int).length 0 (some 1)), ?_, by rw [List.map_take, List.map_drop]⟩
      rw [List.length_take, List.length_drop]
      omega
    obtain ⟨ms, hl, e⟩ := e
    refine ⟨ms, hl, ?_⟩
    have hlow : W.lows 0 (ms.map W.int) = true := by
      clear e hl
      induction ms with
      | nil => rfl
      | cons a r ih => exact ih
    simp [frE, lowE, pickE, W.low, eSl, evar, cst, oSome, R.bind, fSl, pureR, e, hlow]
  obtain ⟨env', st', h2, c, x3, x4, x5, h3, h4⟩ := for_gen (src := .en 1) (p := .tp [3, 4]) (ys := enumW 0 (ms.map W.int))
    (body := sSeq (sPat (.nm 5) (eBin fMod (eCall (f1 gInt) (aCons (evar 3) aNil)) (evar 1))) (sTg (.sub (evar 2) (evar 5)) (eBin fAdd (eBin fIx (evar 2) (evar 5)) (eBin fMul (evar 4) (eBin fAdd (evar 3) (cst (.int 2)))))))
    (Inv := fun _ env st => ∃ (c : Int) (x3 x4 x5 : Option W), env = [some (.frz ns), some (.int 1), some (.ls 0), x3, x4, x5] ∧ st = [.lst [.int c], .lst (ms.map W.int)])
    (by
      rintro j env st ⟨c, x3, x4, x5, rfl, rfl⟩
      rw [enumW_get]
      show (match (ms.map W.int)[j]? with
        | some w => some (W.tup [.int (j : Nat), w])
        | none => none) = _
      cases (ms.map W.int)[j]? with
      | none => rfl
      | some w => simp)
    (by
      rintro j x env st hj ⟨c, x3, x4, x5, rfl, rfl⟩
      rw [enumW_get] at hj
      have hj2 : j < ms.length := by
        by_cases hz : j < ms.length
        · exact hz
        · rw [List.getElem?_eq_none (by simpa using hz)] at hj
          cases hj
      have e : (ms.map W.int)[j]? = some (.int ms[j]) := by simp [hj2]
      rw [e] at hj
      cases hj
      refine ⟨[some (.frz ns), some (.int 1), some (.ls 0), some (.int ((0 + j : Nat) : Int)), some (.int ms[j]), x5], _, _, rfl, ?_, ⟨c + ms[j] * (((0 + j : Nat) : Int) + 2), some (.int ((0 + j : Nat) : Int)), some (.int ms[j]), some (.int 0), rfl, rfl⟩⟩
      have m0 : modC ((0 + j : Nat) : Int) 1 = true := rfl
      have m1 : mulC ms[j] (((0 + j : Nat) : Int) + 2) = true := mulC_r (small63_of (by omega))
      have m2 : Int.fmod ((0 + j : Nat) : Int) 1 = 0 := by rw [Int.fmod_eq_emod_of_nonneg _ (by decide)]; exact Int.emod_one _
      have a0 : L2.atI [W.int c] 0 = some (.int c) := rfl
      have a1 : ixN 1 0 = some 0 := rfl
      simp only [sSeq, sPat, Pat.set, eBin, eCall, aCons, aNil, evar, cst, R.bind, f1, gInt, fMod, fInt, intOk, m0, m2, sTg, Tg.set, fIx, fAdd, fMul, fSet, List.getElem?_cons_succ, List.getElem?_cons_zero, List.set_cons_succ, List.set_cons_zero, if_true, a0, m1, List.length_cons, List.length_nil, a1])
    (enumW 0 (ms.map W.int)).length 0 [some (.frz ns), some (.int 1), some (.ls 0), none, none, none] [.lst [.int c0], .lst (ms.map W.int)] (Nat.zero_add _) ⟨c0, none, none, none, rfl, rfl⟩
  subst h3 h4
  refine ⟨c, ?_⟩
  have hlen : ∀ (xs : List W) (i : Nat), (enumW i xs).length = xs.length := by
    intro xs
    induction xs with
    | nil => intro i; rfl
    | cons x xs ih => intro i; simp [enumW, ih]
  rw [hlen] at h2
  refine callM_ls (n := 0) (s := [.lst [.int c], .lst (ms.map W.int)]) rfl ?_ rfl rfl
  refine mk_rt rfl ?_
  have e0 : sPat (.nm 2) (frE [0, 1] (eOr (eCall (f1 gList) (aCons (eSl (evar 0) oNone (oSome (evar 1))) aNil)) (eLst (aCons (cst (.int 0)) aNil)))) [some (.frz ns), some (.int 1), none, none, none, none] [] = .ok (.nx [some (.frz ns), some (.int 1), some (.ls 0), none, none, none]) [.lst [.int c0]] := pat_nm h0
  show m__law_cells [some (.frz ns), some (.int 1), none, none, none, none] [] = _
  unfold m__law_cells
  rw [seq_nx e0]
  have e1 : sFor (iEnum (frE [0, 1] (eSl (evar 0) (oSome (evar 1)) (oSome (cst (.int 63)))))) (.tp [3, 4]) (sSeq (sPat (.nm 5) (eBin fMod (eCall (f1 gInt) (aCons (evar 3) aNil)) (evar 1))) (sTg (.sub (evar 2) (evar 5)) (eBin fAdd (eBin fIx (evar 2) (evar 5)) (eBin fMul (evar 4) (eBin fAdd (evar 3) (cst (.int 2)))))))
      [some (.frz ns), some (.int 1), some (.ls 0), none, none, none] [.lst [.int c0]] = .ok (.nx [some (.frz ns), some (.int 1), some (.ls 0), x3, x4, x5]) [.lst [.int c], .lst (ms.map W.int)] := by
    unfold sFor iEnum
    simp only [R.bind, h1]
    show forM (.en 1) _ _ ((ms.map W.int).length + 1) 0 _ _ = _
    exact h2
  rw [seq_nx e1]
  rfl
theorem box_ok (c : Int) : ∃ o, Tin 0 o ∧ callM f__law_box [.ls 0, .int 0] [.lst [.int c]] = .ok (.ls 1) [.lst [.int c], o] := by
  have hc : 0 ≤ (if c < 0 then -c else c) := by split <;> omega
  refine ⟨_, ⟨(if c < 0 then -c else c) * (if geI (if c < 0 then -c else c) (10 ^ Int.toNat 18) = true then 1 else 0), Int.fmod c 2305843009213693951 + 39373 * 0 + 9172084, 0, rfl, ?_, by decide, by decide⟩, ?_⟩
  · refine Int.mul_nonneg hc ?_
    cases geI (if c < 0 then -c else c) (10 ^ Int.toNat 18) <;> decide
  · have s1 : sPat (.nm 2) (eIf (tBl (eBin (fCmp ltI) (evar 1) (eCall (f1 gLen) (aCons (evar 0) aNil)))) (eBin fIx (evar 0) (evar 1)) (cst (.int 0))) [some (.ls 0), some (.int 0), none] [.lst [.int c]] = .ok (.nx [some (.ls 0), some (.int 0), some (.int c)]) [.lst [.int c]] := by kernel_rfl
    have e0 : eBin fMul (eCall (f1 gAbs) (aCons (evar 2) aNil)) (eCall (f1 gInt) (aCons (eBin (fCmp geI) (eCall (f1 gAbs) (aCons (evar 2) aNil)) (eBin fPow (cst (.int 10)) (cst (.int 18)))) aNil)) [none, some (.int 0), some (.int c)] [] = .ok (.int ((if c < 0 then -c else c) * (if geI (if c < 0 then -c else c) (10 ^ Int.toNat 18) = true then 1 else 0))) [] := by
      refine (bin_ok (x := .int (if c < 0 then -c else c)) (y := .int (if geI (if c < 0 then -c else c) (10 ^ Int.toNat 18) = true then 1 else 0)) (s := []) (s' := []) (by kernel_rfl) (by kernel_rfl)).trans ?_
      show (if mulC _ _ = true then _ else _) = _
      rw [if_pos (mulC_r (by cases geI (if c < 0 then -c else c) (10 ^ Int.toNat 18) <;> decide))]
    have e1 : eBin fAdd (eBin fAdd (eBin fMod (eCall (f1 gInt) (aCons (evar 2) aNil)) (cst (.int 2305843009213693951))) (eBin fMul (cst (.int 39373)) (evar 1))) (cst (.int 9172084)) [none, some (.int 0), some (.int c)] [] = .ok (.int (Int.fmod c 2305843009213693951 + 39373 * 0 + 9172084)) [] := by kernel_rfl
    have s2 : m__law_box [some (.ls 0), some (.int 0), none] [.lst [.int c]] = .ok (.rt (.ls 1)) [.lst [.int c], .lst [.int ((if c < 0 then -c else c) * (if geI (if c < 0 then -c else c) (10 ^ Int.toNat 18) = true then 1 else 0)), .int (Int.fmod c 2305843009213693951 + 39373 * 0 + 9172084), .int 0]] := by
      unfold m__law_box
      rw [seq_nx s1]
      refine ret_ok ?_
      show pureR _ (eLst _ [none, some (.int 0), some (.int c)] []) = _
      simp only [eLst, aCons, aNil, R.bind, e0, e1, cst]
      rfl
    have s3 : f__law_box [.ls 0, .int 0] [.lst [.int c]] = _ := mk_rt rfl s2
    show trimR 1 (f__law_box [.ls 0, .int 0] [.lst [.int c]]) = _
    rw [s3]
    rfl
end Rx.K84

namespace Rx.K84
open PySem PySem.Spec PyProof.Rows L2 Rx
/-! the pure tests of a lap, at their own slots -/
section
variable {p q r : Rat}
/-- one[0], one[1] -/
theorem ix0 (q : Rat) (st : Sto) : fIx (fr q) (.int 0) st = .ok (.int q.num) st := rfl
theorem ix1 (q : Rat) (st : Sto) : fIx (fr q) (.int 1) st = .ok (.int (q.den : Int)) st := rfl
theorem tup0 : (W.tup [.int 0, .int 1]) = fr 0 := rfl
theorem tup1 : (W.tup [.int 1, .int 1]) = fr 1 := rfl
theorem sz_zero : Sz 0 0 := ⟨by decide, by decide⟩
theorem feq_fr0 (x y : Rat) (s : Sto) (h : x ≠ y) : fEq false (fr x) (fr y) s = .ok (.bl false) s := by rw [feq_fr, decide_eq_false h]; rfl
theorem feq_fr1 (x : Rat) (s : Sto) : fEq false (fr x) (fr x) s = .ok (.bl true) s := by rw [feq_fr, decide_eq_true rfl]; rfl
theorem fne_fr (x y : Rat) (s : Sto) (h : x ≠ y) : fEq true (fr x) (fr y) s = .ok (.bl true) s := by rw [feq_fr, decide_eq_false h]; rfl
theorem feq_self (x : Rat) (s : Sto) : fEq true (fr x) (fr x) s = .ok (.bl false) s := by rw [feq_fr, decide_eq_true rfl]; rfl
def T2 : TX := tNotM (tTru (eCall (callM (f__law_same 8)) (aCons (eLst (aCons (evar 8) (aCons (evar 9) aNil))) (aCons (eLst (aCons (eCall (callM f__law_cut) (aCons (eBin fAdd (eBin fMul (eBin fIx (evar 5) (cst (.int 0))) (eBin fIx (evar 6) (cst (.int 1)))) (eBin fMul (eBin fIx (evar 6) (cst (.int 0))) (eBin fIx (evar 5) (cst (.int 1))))) (aCons (eBin fMul (eBin fIx (evar 5) (cst (.int 1))) (eBin fIx (evar 6) (cst (.int 1)))) aNil))) (aCons (eCall (callM f__law_cut) (aCons (eBin fMul (eBin fIx (evar 5) (cst (.int 0))) (eBin fIx (evar 6) (cst (.int 0)))) (aCons (eBin fMul (eBin fIx (evar 5) (cst (.int 1))) (eBin fIx (evar 6) (cst (.int 1)))) aNil))) aNil))) aNil))))
theorem t2_ok (hp : Sz 6 p) (hq : Sz 6 q) : T2 [none, none, none, none, none, some (fr p), some (fr q), none, some (fr (p + q)), some (fr (p * q)), none, none, none, none, none, none] [] = .ok false [.lst [fr (p + q), fr (p * q)], .lst [fr (p + q), fr (p * q)]] := by
  have m1 : mulC p.num q.den = true := mul_ok hp.n (den_abs hq) (by omega) (by omega)
  have m2 : mulC q.num p.den = true := mul_ok hq.n (den_abs hp) (by omega) (by omega)
  have m3 : mulC p.den q.den = true := mul_ok (den_abs hp) (den_abs hq) (by omega) (by omega)
  have m4 : mulC p.num q.num = true := mul_ok hp.n hq.n (by omega) (by omega)
  have e1 : ∀ s : Sto, callM f__law_cut [.int (p.num * q.den + q.num * p.den), .int ((p.den : Int) * (q.den : Int))] s = .ok (fr (p + q)) s := fun s => by
    rw [sp_cut (dd_ne p q) (lt490 (abs_mul (den_abs hp) (den_abs hq)) (by omega)), lo_rat (dd_ne p q) (rat_add p q)]
  have e2 : ∀ s : Sto, callM f__law_cut [.int (p.num * q.num), .int ((p.den : Int) * (q.den : Int))] s = .ok (fr (p * q)) s := fun s => by
    rw [sp_cut (dd_ne p q) (lt490 (abs_mul (den_abs hp) (den_abs hq)) (by omega)), lo_rat (dd_ne p q) (rat_mul p q)]
  have e3 := same_lists (p + q) (p * q)
  simp [T2, tNotM, tTru, truR, tru, eCall, aCons, aNil, evar, cst, R.bind, eLst, eBin, ix0, ix1, fMul, fAdd, m1, m2, m3, m4, e1, e2, e3]
def T3 : TX := (tOrM (tBl (eBin (fEq true) (eCall (callM f_fraction_sum) (aCons (evar 8) (aCons (evar 7) aNil))) (eCall (callM f_fraction_sum) (aCons (evar 5) (aCons (eCall (callM f_fraction_sum) (aCons (evar 6) (aCons (evar 7) aNil))) aNil))))) (tOrM (tBl (eBin (fEq true) (eCall (callM f_fraction_product) (aCons (evar 9) (aCons (evar 7) aNil))) (eCall (callM f_fraction_product) (aCons (evar 5) (aCons (eCall (callM f_fraction_product) (aCons (evar 6) (aCons (evar 7) aNil))) aNil))))) (tOrM (tBl (eBin (fEq true) (evar 8) (eCall (callM f_fraction_sum) (aCons (evar 6) (aCons (evar 5) aNil))))) (tBl (eBin (fEq true) (evar 9) (eCall (callM f_fraction_product) (aCons (evar 6) (aCons (evar 5) aNil))))))))
theorem t3_ok (hp : Sz 6 p) (hq : Sz 6 q) (hr : Sz 6 r) : T3 [none, none, none, none, none, some (fr p), some (fr q), some (fr r), some (fr (p + q)), some (fr (p * q)), none, none, none, none, none, none] [] = .ok false [] := by
  have e1 := sp_sum (sz_add hp hq) hr (by omega)
  have e2 := sp_sum hq hr (by omega)
  have e3 := sp_sum hp (sz_add hq hr) (by omega)
  have e4 := sp_prod (sz_mul hp hq) hr (by omega)
  have e5 := sp_prod hq hr (by omega)
  have e6 := sp_prod hp (sz_mul hq hr) (by omega)
  have e7 := sp_sum hq hp (by omega)
  have e8 := sp_prod hq hp (by omega)
  have h1 : p + q + r = p + (q + r) := by grind
  have h2 : p * q * r = p * (q * r) := by grind
  have h3 : p + q = q + p := by grind
  have h4 : p * q = q * p := by grind
  have f1 : ∀ s, fEq true (fr (p + q + r)) (fr (p + (q + r))) s = .ok (.bl false) s := fun s => by rw [h1, feq_fr, decide_eq_true rfl]; rfl
  have f2 : ∀ s, fEq true (fr (p * q * r)) (fr (p * (q * r))) s = .ok (.bl false) s := fun s => by rw [h2, feq_fr, decide_eq_true rfl]; rfl
  have f3 : ∀ s, fEq true (fr (p + q)) (fr (q + p)) s = .ok (.bl false) s := fun s => by rw [h3, feq_fr, decide_eq_true rfl]; rfl
  have f4 : ∀ s, fEq true (fr (p * q)) (fr (q * p)) s = .ok (.bl false) s := fun s => by rw [h4, feq_fr, decide_eq_true rfl]; rfl
  simp [T3, tOrM, tBl, eBin, eCall, aCons, aNil, evar, R.bind, e1, e2, e3, e4, e5, e6, e7, e8, f1, f2, f3, f4]
def T4 : TX := (tOrM (tBl (eBin (fEq true) (eCall (callM f_fraction_product) (aCons (evar 5) (aCons (eCall (callM f_fraction_sum) (aCons (evar 6) (aCons (evar 7) aNil))) aNil))) (eCall (callM f_fraction_sum) (aCons (evar 9) (aCons (eCall (callM f_fraction_product) (aCons (evar 5) (aCons (evar 7) aNil))) aNil))))) (tOrM (tBl (eBin (fEq true) (eCall (callM f_fraction_sum) (aCons (evar 5) (aCons (eTup (aCons (cst (.int 0)) (aCons (cst (.int 1)) aNil))) aNil))) (evar 5))) (tOrM (tBl (eBin (fEq true) (eCall (callM f_fraction_product) (aCons (evar 5) (aCons (eTup (aCons (cst (.int 1)) (aCons (cst (.int 1)) aNil))) aNil))) (evar 5))) (tBl (eBin (fEq true) (eCall (callM f_fraction_product) (aCons (evar 5) (aCons (eTup (aCons (cst (.int 0)) (aCons (cst (.int 1)) aNil))) aNil))) (eTup (aCons (cst (.int 0)) (aCons (cst (.int 1)) aNil))))))))
theorem t4_ok (hp : Sz 6 p) (hq : Sz 6 q) (hr : Sz 6 r) : T4 [none, none, none, none, none, some (fr p), some (fr q), some (fr r), none, some (fr (p * q)), none, none, none, none, none, none] [] = .ok false [] := by
  have e1 := sp_sum hq hr (by omega)
  have e2 := sp_prod hp (sz_add hq hr) (by omega)
  have e3 := sp_prod hp hr (by omega)
  have e4 := sp_sum (sz_mul hp hq) (sz_mul hp hr) (by omega)
  have e5 := sp_sum hp sz_zero (by omega)
  have e6 := sp_prod hp sz_one (by omega)
  have e7 := sp_prod hp sz_zero (by omega)
  have f1 : ∀ s, fEq true (fr (p * (q + r))) (fr (p * q + p * r)) s = .ok (.bl false) s := fun s => by rw [show p * (q + r) = p * q + p * r by grind, feq_fr, decide_eq_true rfl]; rfl
  have f2 : ∀ s, fEq true (fr (p + 0)) (fr p) s = .ok (.bl false) s := fun s => by rw [show p + 0 = p by grind, feq_fr, decide_eq_true rfl]; rfl
  have f3 : ∀ s, fEq true (fr (p * 1)) (fr p) s = .ok (.bl false) s := fun s => by rw [show p * 1 = p by grind, feq_fr, decide_eq_true rfl]; rfl
  have f4 : ∀ s, fEq true (fr (p * 0)) (fr 0) s = .ok (.bl false) s := fun s => by rw [show p * 0 = 0 by grind, feq_fr, decide_eq_true rfl]; rfl
  have e1' : ∀ s, eTup (aCons (cst (.int 0)) (aCons (cst (.int 1)) aNil)) [none, none, none, none, none, some (fr p), some (fr q), some (fr r), none, some (fr (p * q)), none, none, none, none, none, none] s = .ok (fr 0) s := fun _ => rfl
  have e2' : ∀ s, eTup (aCons (cst (.int 1)) (aCons (cst (.int 1)) aNil)) [none, none, none, none, none, some (fr p), some (fr q), some (fr r), none, some (fr (p * q)), none, none, none, none, none, none] s = .ok (fr 1) s := fun _ => rfl
  simp [T4, tOrM, tBl, eBin, eCall, feq_self, e1', e2', aCons, aNil, evar, R.bind, e1, e2, e3, e4, e5, e6, e7, f1, f2, f3, f4]
def T5 : TX := (tOrM (tBl (eBin (fEq true) (eCall (callM f_fraction_sum) (aCons (evar 5) (aCons (eTup (aCons (eBin fSub (cst (.int 0)) (eBin fIx (evar 5) (cst (.int 0)))) (aCons (eBin fIx (evar 5) (cst (.int 1))) aNil))) aNil))) (eTup (aCons (cst (.int 0)) (aCons (cst (.int 1)) aNil))))) (tBl (eBin (fEq true) (eBin (fEq false) (eCall (callM f_over2) (aCons (evar 5) (aCons (evar 6) aNil))) (eLst (aCons (cst (.str "cannot")) (aCons (cst (.bl true)) aNil)))) (eBin (fEq false) (evar 6) (eTup (aCons (cst (.int 0)) (aCons (cst (.int 1)) aNil)))))))
theorem neg_fr (p : Rat) : W.tup [.int (0 - p.num), .int (p.den : Int)] = fr (-p) := by
  unfold fr
  have h1 : (-p).num = 0 - p.num := by rw [Int.zero_sub]; rfl
  have h2 : (-p).den = p.den := rfl
  rw [h1, h2]
theorem sz_neg {k : Nat} (hp : Sz k p) : Sz k (-p) := ⟨by rw [show (-p).num = -p.num from rfl, Int.natAbs_neg]; exact hp.n, hp.d⟩
def E2 (p q : Rat) : Env' := [none, none, none, none, none, some (fr p), some (fr q), none, none, none, none, none, none, none, none, none]
theorem t5_ok (hp : Sz 6 p) (hq : Sz 6 q) : ∃ s, T5 (E2 p q) [] = .ok false s := by
  have e1 := sp_sum hp (sz_neg hp) (by omega)
  have z : p + -p = 0 := by grind
  rw [z] at e1
  have n1 : ∀ s, eTup (aCons (eBin fSub (cst (.int 0)) (eBin fIx (evar 5) (cst (.int 0)))) (aCons (eBin fIx (evar 5) (cst (.int 1))) aNil)) (E2 p q) s = .ok (fr (-p)) s := fun s => by
    rw [← neg_fr]
    kernel_rfl
  have n2 : ∀ s, eTup (aCons (cst (.int 0)) (aCons (cst (.int 1)) aNil)) (E2 p q) s = .ok (fr 0) s := fun _ => rfl
  have v5 : ∀ s, evar 5 (E2 p q) s = .ok (fr p) s := fun _ => rfl
  have v6 : ∀ s, evar 6 (E2 p q) s = .ok (fr q) s := fun _ => rfl
  have h1 : tBl (eBin (fEq true) (eCall (callM f_fraction_sum) (aCons (evar 5) (aCons (eTup (aCons (eBin fSub (cst (.int 0)) (eBin fIx (evar 5) (cst (.int 0)))) (aCons (eBin fIx (evar 5) (cst (.int 1))) aNil))) aNil))) (eTup (aCons (cst (.int 0)) (aCons (cst (.int 1)) aNil)))) (E2 p q) [] = .ok false [] := by
    refine tBl_ok ((bin_ok ((call2 (v5 _) (n1 _)).trans (e1 _)) (n2 _)).trans (feq_self _ _))
  unfold T5
  rw [or_f h1]
  by_cases hq0 : q = 0
  · subst hq0
    have e2 := sp_lover0 p []
    exact ⟨[.lst [.str "cannot", .bl true], .lst [.str "cannot", .bl true]], tBl_ok (bin_to (x := .bl true) (y := .bl true) (s := [.lst [.str "cannot", .bl true], .lst [.str "cannot", .bl true]]) (s' := [.lst [.str "cannot", .bl true], .lst [.str "cannot", .bl true]]) (bin_to ((call2 (v5 _) (v6 _)).trans e2) rfl (by kernel_rfl)) (bin_to (v6 _) (n2 _) (feq_fr1 _ _)) (by kernel_rfl))⟩
  · have e2 := sp_lover hp hq hq0 (by omega) []
    exact ⟨[.lst [.str "cannot", .bl true]], tBl_ok (bin_to (x := .bl false) (y := .bl false) (s := [.lst [.str "cannot", .bl true]]) (s' := [.lst [.str "cannot", .bl true]]) (bin_to ((call2 (v5 _) (v6 _)).trans e2) (y := .ls 0) (s' := [.lst [.str "cannot", .bl true]]) rfl (by unfold fEq; rw [dat_fr]; kernel_rfl)) (bin_to (v6 _) (n2 _) (feq_fr0 _ _ _ hq0)) (by kernel_rfl))⟩
def T6 : TX := (tAndM (tBl (eBin (fEq true) (evar 6) (eTup (aCons (cst (.int 0)) (aCons (cst (.int 1)) aNil))))) (tOrM (tBl (eBin (fEq true) (eCall (callM f_fraction_product) (aCons (eCall (callM f_over2) (aCons (evar 5) (aCons (evar 6) aNil))) (aCons (evar 6) aNil))) (evar 5))) (tOrM (tBl (eBin (fEq true) (eCall (callM f_over2) (aCons (evar 6) (aCons (evar 6) aNil))) (eTup (aCons (cst (.int 1)) (aCons (cst (.int 1)) aNil))))) (tBl (eBin (fEq true) (eCall (callM f_over2) (aCons (evar 5) (aCons (evar 6) aNil))) (eCall (callM f_fraction_product) (aCons (evar 5) (aCons (eCall (callM f_over2) (aCons (eTup (aCons (cst (.int 1)) (aCons (cst (.int 1)) aNil))) (aCons (evar 6) aNil))) aNil))))))))
theorem t6_ok (hp : Sz 6 p) (hq : Sz 6 q) : T6 (E2 p q) [] = .ok false [] := by
  have n2 : ∀ s, eTup (aCons (cst (.int 0)) (aCons (cst (.int 1)) aNil)) (E2 p q) s = .ok (fr 0) s := fun _ => rfl
  have n3 : ∀ s, eTup (aCons (cst (.int 1)) (aCons (cst (.int 1)) aNil)) (E2 p q) s = .ok (fr 1) s := fun _ => rfl
  have v5 : ∀ s, evar 5 (E2 p q) s = .ok (fr p) s := fun _ => rfl
  have v6 : ∀ s, evar 6 (E2 p q) s = .ok (fr q) s := fun _ => rfl
  unfold T6
  by_cases hq0 : q = 0
  · subst hq0
    rw [and_f (tBl_ok (bin_to (v6 _) (n2 _) (feq_self _ _)))]
  · have e1 := sp_lover hp hq hq0 (by omega)
    have e2 := sp_prod (sz_div hp hq hq0) hq (by omega)
    have e3 := sp_lover hq hq hq0 (by omega)
    have e4 := sp_lover sz_one hq hq0 (by omega)
    have e5 := sp_prod hp (sz_div sz_one hq hq0) (by omega)
    rw [show p / q * q = p by grind] at e2
    rw [show q / q = 1 by grind] at e3
    rw [show p * (1 / q) = p / q by grind] at e5
    rw [and_t (tBl_ok (bin_to (v6 _) (n2 _) (fne_fr _ _ _ hq0)))]
    rw [or_f (tBl_ok (bin_to ((call2 ((call2 (v5 _) (v6 _)).trans (e1 _)) (v6 _)).trans (e2 _)) (v5 _) (feq_self _ _)))]
    rw [or_f (tBl_ok (bin_to ((call2 (v6 _) (v6 _)).trans (e3 _)) (n3 _) (feq_self _ _)))]
    exact tBl_ok (bin_to ((call2 (v5 _) (v6 _)).trans (e1 _)) ((call2 (v5 _) ((call2 (n3 _) (v6 _)).trans (e4 _))).trans (e5 _)) (feq_self _ _))
def T7 : TX := (tOrM (tBl (eBin (fEq true) (evar 12) (eCall (callM f__law_pow) (aCons (evar 5) (aCons (evar 10) aNil))))) (tOrM (tBl (eBin (fEq true) (eCall (callM f_fraction_product) (aCons (evar 12) (aCons (eCall (callM f_fraction_power) (aCons (evar 5) (aCons (evar 11) aNil))) aNil))) (eCall (callM f_fraction_power) (aCons (evar 5) (aCons (eBin fAdd (evar 10) (evar 11)) aNil))))) (tOrM (tBl (eBin (fEq true) (eCall (callM f_fraction_power) (aCons (evar 5) (aCons (cst (.int 0)) aNil))) (eTup (aCons (cst (.int 1)) (aCons (cst (.int 1)) aNil))))) (tBl (eBin (fEq true) (eCall (callM f_fraction_power) (aCons (evar 5) (aCons (cst (.int 1)) aNil))) (evar 5))))))
theorem pow_add (p : Rat) (m : Nat) : ∀ n : Nat, p ^ m * p ^ n = p ^ (m + n)
  | 0 => by rw [Rat.pow_zero, Nat.add_zero]; grind
  | n + 1 => by
    rw [Rat.pow_succ, ← Nat.add_assoc, Rat.pow_succ, ← pow_add p m n]
    grind
theorem t7_ok (hp : Sz 6 p) (m n : Nat) (hm : m < 8) (hn : n < 8) : T7 [none, none, none, none, none, some (fr p), none, none, none, none, some (.int (m : Nat)), some (.int (n : Nat)), some (fr (p ^ m)), none, none, none] [] = .ok false [] := by
  generalize hE : ([none, none, none, none, none, some (fr p), none, none, none, none, some (.int (m : Nat)), some (.int (n : Nat)), some (fr (p ^ m)), none, none, none] : Env') = E
  have v5 : ∀ s, evar 5 E s = .ok (fr p) s := fun _ => by rw [← hE]; rfl
  have v10 : ∀ s, evar 10 E s = .ok (.int (m : Nat)) s := fun _ => by rw [← hE]; rfl
  have v11 : ∀ s, evar 11 E s = .ok (.int (n : Nat)) s := fun _ => by rw [← hE]; rfl
  have v12 : ∀ s, evar 12 E s = .ok (fr (p ^ m)) s := fun _ => by rw [← hE]; rfl
  have n3 : ∀ s, eTup (aCons (cst (.int 1)) (aCons (cst (.int 1)) aNil)) E s = .ok (fr 1) s := fun _ => rfl
  have e1 := sp_lpow hp m (by omega) (by omega)
  have e2 := sp_fpower hp n (by omega) (by omega)
  have e3 := sp_fpower hp (m + n) (by omega) (by omega)
  have e4 := sp_fpower hp 0 (by omega) (by omega)
  have e5 := sp_fpower hp 1 (by omega) (by omega)
  have e6 := sp_prod (sz_pow hp m) (sz_pow hp n) (by omega)
  rw [pow_add] at e6
  rw [Rat.pow_zero] at e4
  rw [Rat.pow_one] at e5
  have a1 : ∀ s, eBin fAdd (evar 10) (evar 11) E s = .ok (.int ((m + n : Nat) : Int)) s := fun s => bin_to (v10 _) (v11 _) (by show R.ok (W.int ((m : Int) + (n : Int))) s = _; rw [Int.natCast_add])
  unfold T7
  rw [or_f (tBl_ok (bin_to (v12 _) ((call2 (v5 _) (v10 _)).trans (e1 _)) (feq_self _ _)))]
  rw [or_f (tBl_ok (bin_to ((call2 (v12 _) ((call2 (v5 _) (v11 _)).trans (e2 _))).trans (e6 _)) ((call2 (v5 _) (a1 _)).trans (e3 _)) (feq_self _ _)))]
  rw [or_f (tBl_ok (bin_to ((call2 (v5 _) (show cst (.int 0) E _ = .ok (.int ((0 : Nat) : Int)) _ from rfl)).trans (e4 _)) (n3 _) (feq_self _ _)))]
  exact tBl_ok (bin_to ((call2 (v5 _) (show cst (.int 1) E _ = .ok (.int ((1 : Nat) : Int)) _ from rfl)).trans (e5 _)) (v5 _) (feq_self _ _))
def T8 : TX := (tOrM (tBl (eBin (fEq true) (eCall (callM f_fraction) (aCons (eBin fSub (cst (.int 0)) (eBin fMul (eBin fIx (evar 5) (cst (.int 0))) (evar 13))) (aCons (eBin fSub (cst (.int 0)) (eBin fMul (eBin fIx (evar 5) (cst (.int 1))) (evar 13))) aNil))) (evar 5))) (tBl (eBin (fEq true) (eCall (callM f_fraction) (aCons (eBin fMul (eBin fIx (evar 5) (cst (.int 0))) (evar 13)) (aCons (eBin fSub (cst (.int 0)) (eBin fMul (eBin fIx (evar 5) (cst (.int 1))) (evar 13))) aNil))) (eTup (aCons (eBin fSub (cst (.int 0)) (eBin fIx (evar 5) (cst (.int 0)))) (aCons (eBin fIx (evar 5) (cst (.int 1))) aNil))))))
theorem t8_ok (hp : Sz 6 p) (x : Int) (h1 : 0 < x) (h2 : x ≤ 100) : T8 [none, none, none, none, none, some (fr p), none, none, none, none, none, none, none, some (.int x), none, none] [] = .ok false [] := by
  generalize hE : ([none, none, none, none, none, some (fr p), none, none, none, none, none, none, none, some (.int x), none, none] : Env') = E
  have v5 : ∀ s, evar 5 E s = .ok (fr p) s := fun _ => by rw [← hE]; rfl
  have v13 : ∀ s, evar 13 E s = .ok (.int x) s := fun _ => by rw [← hE]; rfl
  have hx : x.natAbs ≤ 10 ^ 2 := by omega
  have m1 : mulC p.num x = true := mul_ok hp.n hx (by omega) (by omega)
  have m2 : mulC p.den x = true := mul_ok (den_abs hp) hx (by omega) (by omega)
  have i0 : ∀ s, eBin fIx (evar 5) (cst (.int 0)) E s = .ok (.int p.num) s := fun s => bin_to (v5 _) rfl (ix0 _ _)
  have i1 : ∀ s, eBin fIx (evar 5) (cst (.int 1)) E s = .ok (.int (p.den : Int)) s := fun s => bin_to (v5 _) rfl (ix1 _ _)
  have a1 : ∀ s, eBin fMul (eBin fIx (evar 5) (cst (.int 0))) (evar 13) E s = .ok (.int (p.num * x)) s := fun s => bin_to (i0 _) (v13 _) (by show (if mulC _ _ = true then _ else _) = _; rw [if_pos m1])
  have a2 : ∀ s, eBin fMul (eBin fIx (evar 5) (cst (.int 1))) (evar 13) E s = .ok (.int ((p.den : Int) * x)) s := fun s => bin_to (i1 _) (v13 _) (by show (if mulC _ _ = true then _ else _) = _; rw [if_pos m2])
  have a3 : ∀ s, eBin fSub (cst (.int 0)) (eBin fMul (eBin fIx (evar 5) (cst (.int 0))) (evar 13)) E s = .ok (.int (0 - p.num * x)) s := fun s => bin_to rfl (a1 _) rfl
  have a4 : ∀ s, eBin fSub (cst (.int 0)) (eBin fMul (eBin fIx (evar 5) (cst (.int 1))) (evar 13)) E s = .ok (.int (0 - (p.den : Int) * x)) s := fun s => bin_to rfl (a2 _) rfl
  have hd : (0 : Int) - (p.den : Int) * x ≠ 0 := by
    have := Int.mul_pos (a := (p.den : Int)) (b := x) (by have := p.den_pos; omega) h1
    omega
  have hb : bigOk (0 - (p.den : Int) * x) = true := by
    have := abs_mul (den_abs hp) hx
    exact big_of (k := 8) (by rw [Int.zero_sub, Int.natAbs_neg]; exact this) (by omega)
  have e1 := sp_fraction (t := 0 - p.num * x) hd hb
  have e2 := sp_fraction (t := p.num * x) hd hb
  have g1 := rat_eq p
  have g2 := den_ne p
  have g3 := cast_ne (b := x) (by omega)
  have r1 : ((0 - p.num * x : Int) : Rat) / ((0 - (p.den : Int) * x : Int) : Rat) = p := by
    rw [Int.zero_sub, Int.zero_sub, Rat.intCast_neg, Rat.intCast_neg, Rat.intCast_mul, Rat.intCast_mul]
    grind
  have r2 : ((p.num * x : Int) : Rat) / ((0 - (p.den : Int) * x : Int) : Rat) = -p := by
    rw [Int.zero_sub, Rat.intCast_neg, Rat.intCast_mul, Rat.intCast_mul]
    grind
  rw [r1] at e1
  rw [r2] at e2
  have n1 : ∀ s, eTup (aCons (eBin fSub (cst (.int 0)) (eBin fIx (evar 5) (cst (.int 0)))) (aCons (eBin fIx (evar 5) (cst (.int 1))) aNil)) E s = .ok (fr (-p)) s := fun s => by
    rw [← neg_fr]
    exact tup2 (bin_to rfl (i0 _) rfl) (i1 _)
  unfold T8
  rw [or_f (tBl_ok (bin_to ((call2 (a3 _) (a4 _)).trans (e1 _)) (v5 _) (feq_self _ _)))]
  exact tBl_ok (bin_to ((call2 (a1 _) (a4 _)).trans (e2 _)) (n1 _) (feq_self _ _))
end
end Rx.K84

namespace Rx.K84
open PySem PySem.Spec PyProof.Rows L2 Rx
/-! a lap, statement by statement -/
def b0 : SX := (sPat (.nm 1) (frE [0] (eCall (callM f__law_box) (aCons (eCall (callM f__law_cells) (aCons (evar 0) (aCons (cst (.int 1)) aNil))) (aCons (cst (.int 0)) aNil)))))
def b1 : SX := (sPat (.nm 3) (frE [1] (eCall (callM f__law_of) (aCons (evar 1) (aCons (eLst (aCons (cst (.int 5)) (aCons (cst (.int 100)) (aCons (eBin fPow (cst (.int 10)) (cst (.int 6))) aNil)))) aNil)))))
def b2 : SX := (sPat (.nm 4) (frE [1, 3] (eComp (iRange (aCons (cst (.int 3)) aNil)) (.nm 14) tYesM (frE [1, 3] (eCall (callM f_fraction) (aCons (eBin fSub (eCall (callM f__law_take) (aCons (evar 1) (aCons (eBin fAdd (eBin fMul (cst (.int 2)) (evar 3)) (cst (.int 1))) aNil))) (evar 3)) (aCons (eBin fAdd (cst (.int 1)) (eCall (callM f__law_take) (aCons (evar 1) (aCons (evar 3) aNil)))) aNil)))) [14])))
def b3 : SX := (sPat (.tp [5, 6, 7]) (evar 4))
def b4 : SX := (sIf (frT [4] (tBl (eBin (fEq true) (eComp (iOf (evar 4)) (.nm 15) (frT [15] (tOrM (tBl (eBin (fIs true) (eCall (callM f_is_fraction) (aCons (evar 15) aNil)) (cst (.bl true)))) (tBl (eBin (fEq true) (eCall (callM f__law_gcd) (aCons (eBin fIx (evar 15) (cst (.int 0))) (aCons (eBin fIx (evar 15) (cst (.int 1))) aNil))) (cst (.int 1)))))) (evar 15) [15]) (eLst aNil)))) (sRet (cst (.bl false))) sNil)
def b5 : SX := (sPar 8 9 (aCons (eCall (callM f_fraction_sum) (aCons (evar 5) (aCons (evar 6) aNil))) (aCons (eCall (callM f_fraction_product) (aCons (evar 5) (aCons (evar 6) aNil))) aNil)))
def b6 : SX := (sIf (frT [5, 6, 8, 9] (tNotM (tTru (eCall (callM (f__law_same 8)) (aCons (eLst (aCons (evar 8) (aCons (evar 9) aNil))) (aCons (eLst (aCons (eCall (callM f__law_cut) (aCons (eBin fAdd (eBin fMul (eBin fIx (evar 5) (cst (.int 0))) (eBin fIx (evar 6) (cst (.int 1)))) (eBin fMul (eBin fIx (evar 6) (cst (.int 0))) (eBin fIx (evar 5) (cst (.int 1))))) (aCons (eBin fMul (eBin fIx (evar 5) (cst (.int 1))) (eBin fIx (evar 6) (cst (.int 1)))) aNil))) (aCons (eCall (callM f__law_cut) (aCons (eBin fMul (eBin fIx (evar 5) (cst (.int 0))) (eBin fIx (evar 6) (cst (.int 0)))) (aCons (eBin fMul (eBin fIx (evar 5) (cst (.int 1))) (eBin fIx (evar 6) (cst (.int 1)))) aNil))) aNil))) aNil)))))) (sRet (cst (.bl false))) sNil)
def b7 : SX := (sIf (frT [5, 6, 7, 8, 9] (tOrM (tBl (eBin (fEq true) (eCall (callM f_fraction_sum) (aCons (evar 8) (aCons (evar 7) aNil))) (eCall (callM f_fraction_sum) (aCons (evar 5) (aCons (eCall (callM f_fraction_sum) (aCons (evar 6) (aCons (evar 7) aNil))) aNil))))) (tOrM (tBl (eBin (fEq true) (eCall (callM f_fraction_product) (aCons (evar 9) (aCons (evar 7) aNil))) (eCall (callM f_fraction_product) (aCons (evar 5) (aCons (eCall (callM f_fraction_product) (aCons (evar 6) (aCons (evar 7) aNil))) aNil))))) (tOrM (tBl (eBin (fEq true) (evar 8) (eCall (callM f_fraction_sum) (aCons (evar 6) (aCons (evar 5) aNil))))) (tBl (eBin (fEq true) (evar 9) (eCall (callM f_fraction_product) (aCons (evar 6) (aCons (evar 5) aNil))))))))) (sRet (cst (.bl false))) sNil)
def b8 : SX := (sIf (frT [5, 6, 7, 9] (tOrM (tBl (eBin (fEq true) (eCall (callM f_fraction_product) (aCons (evar 5) (aCons (eCall (callM f_fraction_sum) (aCons (evar 6) (aCons (evar 7) aNil))) aNil))) (eCall (callM f_fraction_sum) (aCons (evar 9) (aCons (eCall (callM f_fraction_product) (aCons (evar 5) (aCons (evar 7) aNil))) aNil))))) (tOrM (tBl (eBin (fEq true) (eCall (callM f_fraction_sum) (aCons (evar 5) (aCons (eTup (aCons (cst (.int 0)) (aCons (cst (.int 1)) aNil))) aNil))) (evar 5))) (tOrM (tBl (eBin (fEq true) (eCall (callM f_fraction_product) (aCons (evar 5) (aCons (eTup (aCons (cst (.int 1)) (aCons (cst (.int 1)) aNil))) aNil))) (evar 5))) (tBl (eBin (fEq true) (eCall (callM f_fraction_product) (aCons (evar 5) (aCons (eTup (aCons (cst (.int 0)) (aCons (cst (.int 1)) aNil))) aNil))) (eTup (aCons (cst (.int 0)) (aCons (cst (.int 1)) aNil))))))))) (sRet (cst (.bl false))) sNil)
def b9 : SX := (sIf (frT [5, 6] (tOrM (tBl (eBin (fEq true) (eCall (callM f_fraction_sum) (aCons (evar 5) (aCons (eTup (aCons (eBin fSub (cst (.int 0)) (eBin fIx (evar 5) (cst (.int 0)))) (aCons (eBin fIx (evar 5) (cst (.int 1))) aNil))) aNil))) (eTup (aCons (cst (.int 0)) (aCons (cst (.int 1)) aNil))))) (tBl (eBin (fEq true) (eBin (fEq false) (eCall (callM f_over2) (aCons (evar 5) (aCons (evar 6) aNil))) (eLst (aCons (cst (.str "cannot")) (aCons (cst (.bl true)) aNil)))) (eBin (fEq false) (evar 6) (eTup (aCons (cst (.int 0)) (aCons (cst (.int 1)) aNil)))))))) (sRet (cst (.bl false))) sNil)
def b10 : SX := (sIf (frT [5, 6] (tAndM (tBl (eBin (fEq true) (evar 6) (eTup (aCons (cst (.int 0)) (aCons (cst (.int 1)) aNil))))) (tOrM (tBl (eBin (fEq true) (eCall (callM f_fraction_product) (aCons (eCall (callM f_over2) (aCons (evar 5) (aCons (evar 6) aNil))) (aCons (evar 6) aNil))) (evar 5))) (tOrM (tBl (eBin (fEq true) (eCall (callM f_over2) (aCons (evar 6) (aCons (evar 6) aNil))) (eTup (aCons (cst (.int 1)) (aCons (cst (.int 1)) aNil))))) (tBl (eBin (fEq true) (eCall (callM f_over2) (aCons (evar 5) (aCons (evar 6) aNil))) (eCall (callM f_fraction_product) (aCons (evar 5) (aCons (eCall (callM f_over2) (aCons (eTup (aCons (cst (.int 1)) (aCons (cst (.int 1)) aNil))) (aCons (evar 6) aNil))) aNil))))))))) (sRet (cst (.bl false))) sNil)
def b11 : SX := (sPar 10 11 (aCons (eCall (callM f__law_take) (aCons (evar 1) (aCons (cst (.int 8)) aNil))) (aCons (eCall (callM f__law_take) (aCons (evar 1) (aCons (cst (.int 8)) aNil))) aNil)))
def b12 : SX := (sPat (.nm 12) (frE [5, 10] (eCall (callM f_fraction_power) (aCons (evar 5) (aCons (evar 10) aNil)))))
def b13 : SX := (sIf (frT [5, 10, 11, 12] (tOrM (tBl (eBin (fEq true) (evar 12) (eCall (callM f__law_pow) (aCons (evar 5) (aCons (evar 10) aNil))))) (tOrM (tBl (eBin (fEq true) (eCall (callM f_fraction_product) (aCons (evar 12) (aCons (eCall (callM f_fraction_power) (aCons (evar 5) (aCons (evar 11) aNil))) aNil))) (eCall (callM f_fraction_power) (aCons (evar 5) (aCons (eBin fAdd (evar 10) (evar 11)) aNil))))) (tOrM (tBl (eBin (fEq true) (eCall (callM f_fraction_power) (aCons (evar 5) (aCons (cst (.int 0)) aNil))) (eTup (aCons (cst (.int 1)) (aCons (cst (.int 1)) aNil))))) (tBl (eBin (fEq true) (eCall (callM f_fraction_power) (aCons (evar 5) (aCons (cst (.int 1)) aNil))) (evar 5))))))) (sRet (cst (.bl false))) sNil)
def b14 : SX := (sPat (.nm 13) (frE [1] (eBin fAdd (cst (.int 1)) (eCall (callM f__law_take) (aCons (evar 1) (aCons (cst (.int 50)) aNil))))))
def b15 : SX := (sIf (tOrM (tBl (eBin (fCmp gtI) (eBin fMul (eCall (f1 gAbs) (aCons (eBin fIx (evar 5) (cst (.int 0))) aNil)) (evar 13)) (eBin fPow (cst (.int 10)) (cst (.int 6))))) (tBl (eBin (fCmp gtI) (eBin fMul (eBin fIx (evar 5) (cst (.int 1))) (evar 13)) (eBin fPow (cst (.int 10)) (cst (.int 6)))))) (sPat (.nm 13) (cst (.int 1))) sNil)
def b16 : SX := (sIf (frT [5, 13] (tOrM (tBl (eBin (fEq true) (eCall (callM f_fraction) (aCons (eBin fSub (cst (.int 0)) (eBin fMul (eBin fIx (evar 5) (cst (.int 0))) (evar 13))) (aCons (eBin fSub (cst (.int 0)) (eBin fMul (eBin fIx (evar 5) (cst (.int 1))) (evar 13))) aNil))) (evar 5))) (tBl (eBin (fEq true) (eCall (callM f_fraction) (aCons (eBin fMul (eBin fIx (evar 5) (cst (.int 0))) (evar 13)) (aCons (eBin fSub (cst (.int 0)) (eBin fMul (eBin fIx (evar 5) (cst (.int 1))) (evar 13))) aNil))) (eTup (aCons (eBin fSub (cst (.int 0)) (eBin fIx (evar 5) (cst (.int 0)))) (aCons (eBin fIx (evar 5) (cst (.int 1))) aNil))))))) (sRet (cst (.bl false))) sNil)
def m_lap : SX := sSeq b1 (sSeq b2 (sSeq b3 (sSeq b4 (sSeq b5 (sSeq b6 (sSeq b7 (sSeq b8 (sSeq b9 (sSeq b10 (sSeq b11 (sSeq b12 (sSeq b13 (sSeq b14 (sSeq b15 (b16)))))))))))))))
theorem m_law_eq : m_law = sSeq b0 (sSeq (sFor (iRange (aCons (cst (.int 8)) aNil)) (.nm 2) m_lap) (sRet (cst (.bl true)))) := rfl

theorem sz_frac {t u : Int} (ht : t.natAbs ≤ 10 ^ 6) (hu : u.natAbs ≤ 10 ^ 6) (h : u ≠ 0) : Sz 6 ((t : Rat) / (u : Rat)) := sz_of h rfl ht hu
/-- 1: how great the numbers may be -/
theorem b1_ok {env : Env'} {st : Sto} {o : Ob} {k : Nat} (h1 : env[1]? = some (some (.ls 0))) (h : st[0]? = some o) (ht : Tin k o) (hk : k ≤ 1000) :
    ∃ (M : Int) (o' : Ob) (st' : Sto), 5 ≤ M ∧ M ≤ 1000000 ∧ Tin (k + 1) o' ∧ st'[0]? = some o' ∧ b1 env st = .ok (.nx (env.set 3 (some (.int M)))) st' := by
  have hl : lowE env [1] = false := by
    simp only [lowE, List.all_cons, h1]
    rfl
  have e1 : eLst (aCons (cst (.int 5)) (aCons (cst (.int 100)) (aCons (eBin fPow (cst (.int 10)) (cst (.int 6))) aNil))) env st = .ok (.ls st.length) (st ++ [.lst [.int 5, .int 100, .int 1000000]]) := by kernel_rfl
  have h' : (st ++ [.lst [.int 5, .int 100, .int 1000000]])[0]? = some o := by rw [List.getElem?_append_left (lt_of_get h)]; exact h
  obtain ⟨d, g, o', hd, ht', e2⟩ := of_ok (m := st.length) (gs := [.int 5, .int 100, .int 1000000]) h' ht (by omega) (by simp) (by have := lt_of_get h; omega) (by decide) (by decide) (by intro g hg; simp at hg; rcases hg with rfl | rfl | rfl <;> rfl)
  have hg : ∃ M : Int, g = .int M ∧ 5 ≤ M ∧ M ≤ 1000000 := by
    match d, hd with
    | 0, hd => exact ⟨5, by simpa using hd.symm, by decide, by decide⟩
    | 1, hd => exact ⟨100, by simpa using hd.symm, by decide, by decide⟩
    | 2, hd => exact ⟨1000000, by simpa using hd.symm, by decide, by decide⟩
    | n + 3, hd => simp at hd
  obtain ⟨M, rfl, hM1, hM2⟩ := hg
  refine ⟨M, o', _, hM1, hM2, ht', ?_, pat_nm ((fr_no hl).trans ((call2 (evar_ok h1) e1).trans e2))⟩
  rw [List.getElem?_set_self (lt_of_get h')]
def el : EX := (frE [1, 3] (eCall (callM f_fraction) (aCons (eBin fSub (eCall (callM f__law_take) (aCons (evar 1) (aCons (eBin fAdd (eBin fMul (cst (.int 2)) (evar 3)) (cst (.int 1))) aNil))) (evar 3)) (aCons (eBin fAdd (cst (.int 1)) (eCall (callM f__law_take) (aCons (evar 1) (aCons (evar 3) aNil)))) aNil))))
theorem el_ok {env : Env'} {st : Sto} {o : Ob} {k : Nat} {M : Int} (h1 : env[1]? = some (some (.ls 0))) (h3 : env[3]? = some (some (.int M))) (hM1 : 5 ≤ M) (hM2 : M ≤ 1000000) (h : st[0]? = some o) (ht : Tin k o) (hk : k ≤ 1000) :
    ∃ (q : Rat) (o' : Ob) (st' : Sto), Sz 6 q ∧ Tin (k + 2) o' ∧ st'[0]? = some o' ∧ el env st = .ok (fr q) st' := by
  have hl : lowE env [1, 3] = false := by
    simp only [lowE, List.all_cons, h1]
    rfl
  have m : mulC 2 M = true := mulC_l (by decide)
  have a1 : ∀ s, eBin fAdd (eBin fMul (cst (.int 2)) (evar 3)) (cst (.int 1)) env s = .ok (.int (2 * M + 1)) s := fun s => bin_to (x := .int (2 * M)) (s := s) (bin_to rfl (evar_ok h3) (by show (if mulC 2 M = true then R.ok (W.int (2 * M)) s else R.err) = _; rw [if_pos m])) rfl rfl
  obtain ⟨d1, o1, l1, u1, t1, e1⟩ := take_ok h ht (by omega) (b := 2 * M + 1) (by omega) (by omega)
  have hs1 : (st.set 0 o1)[0]? = some o1 := by rw [List.getElem?_set_self (lt_of_get h)]
  obtain ⟨d2, o2, l2, u2, t2, e2⟩ := take_ok hs1 t1 (by omega) (b := M) (by omega) (by omega)
  have hs2 : ((st.set 0 o1).set 0 o2)[0]? = some o2 := by rw [List.getElem?_set_self (lt_of_get hs1)]
  have c1 : eBin fSub (eCall (callM f__law_take) (aCons (evar 1) (aCons (eBin fAdd (eBin fMul (cst (.int 2)) (evar 3)) (cst (.int 1))) aNil))) (evar 3) env st = .ok (.int (d1 - M)) (st.set 0 o1) := bin_to ((call2 (evar_ok h1) (a1 _)).trans e1) (evar_ok h3) rfl
  have c2 : eBin fAdd (cst (.int 1)) (eCall (callM f__law_take) (aCons (evar 1) (aCons (evar 3) aNil))) env (st.set 0 o1) = .ok (.int (1 + d2)) ((st.set 0 o1).set 0 o2) := bin_to rfl ((call2 (evar_ok h1) (evar_ok h3)).trans e2) rfl
  have c3 := sp_fraction (t := d1 - M) (u := 1 + d2) (by omega) (big_of (k := 6) (by omega) (by omega)) ((st.set 0 o1).set 0 o2)
  exact ⟨_, o2, _, sz_frac (by omega) (by omega) (by omega), t2, hs2, (fr_no hl).trans ((call2 c1 c2).trans c3)⟩
/-- 2: the three fractions -/
theorem b2_ok {env : Env'} {st : Sto} {o : Ob} {k : Nat} {M : Int} (h1 : env[1]? = some (some (.ls 0))) (h3 : env[3]? = some (some (.int M))) (hM1 : 5 ≤ M) (hM2 : M ≤ 1000000) (h : st[0]? = some o) (ht : Tin k o) (hk : k ≤ 900) :
    ∃ (p q r : Rat) (o' : Ob) (n : Nat) (st' : Sto), Sz 6 p ∧ Sz 6 q ∧ Sz 6 r ∧ Tin (k + 6) o' ∧ st'[0]? = some o' ∧ st'[n]? = some (.lst [fr p, fr q, fr r]) ∧ b2 env st = .ok (.nx (env.set 4 (some (.ls n)))) st' := by
  have hl : lowE env [1, 3] = false := by
    simp only [lowE, List.all_cons, h1]
    rfl
  have w1 : ∀ x : W, ((wipeE env [14]).set 14 (some x))[1]? = some (some (.ls 0)) := fun x => by
    show ((env.set 14 none).set 14 (some x))[1]? = _
    rw [List.getElem?_set_ne (by decide), List.getElem?_set_ne (by decide)]
    exact h1
  have w3 : ∀ x : W, ((wipeE env [14]).set 14 (some x))[3]? = some (some (.int M)) := fun x => by
    show ((env.set 14 none).set 14 (some x))[3]? = _
    rw [List.getElem?_set_ne (by decide), List.getElem?_set_ne (by decide)]
    exact h3
  obtain ⟨ys, st1, e1, hlen, hP, o1, ho1, ht1⟩ := comp_fix (xs := rngW 0 1 3) (i := 14) (m := el) (env := wipeE env [14]) (P := fun y => ∃ q, Sz 6 q ∧ y = fr q) (Inv := fun j st => ∃ o, st[0]? = some o ∧ Tin (k + 2 * j) o)
    (by
      rintro j x st hj ⟨o, ho, ht⟩
      have hj3 : j < 3 := (List.getElem?_eq_some_iff.mp hj).1
      obtain ⟨q, o', st', hq, ht', hs, e⟩ := el_ok (w1 x) (w3 x) hM1 hM2 ho ht (by omega)
      exact ⟨_, st', e, ⟨q, hq, rfl⟩, o', hs, ht'.mono (by omega)⟩) 3 0 st rfl ⟨o, h, ht⟩
  obtain ⟨p, q, r, hp, hq, hr, rfl⟩ : ∃ p q r, Sz 6 p ∧ Sz 6 q ∧ Sz 6 r ∧ ys = [fr p, fr q, fr r] := by
    match ys, hlen with
    | [a, b, c], _ =>
      obtain ⟨p, hp, rfl⟩ := hP a (by simp)
      obtain ⟨q, hq, rfl⟩ := hP b (by simp)
      obtain ⟨r, hr, rfl⟩ := hP c (by simp)
      exact ⟨p, q, r, hp, hq, hr, rfl⟩
  refine ⟨p, q, r, o1, st1.length, st1 ++ [.lst [fr p, fr q, fr r]], hp, hq, hr, ht1, by rw [List.getElem?_append_left (lt_of_get ho1)]; exact ho1, by simp, pat_nm ((fr_no hl).trans ?_)⟩
  show (R.bind (iRange (aCons (cst (.int 3)) aNil) env st) _) = _
  have ei : iRange (aCons (cst (.int 3)) aNil) env st = .ok (.fix (rngW 0 1 3)) st := by kernel_rfl
  rw [ei]
  show (R.bind (compM (.fix (rngW 0 1 3)) (.nm 14) tYesM el (wipeE env [14]) 4 0 st) _) = _
  rw [e1]
  rfl
/-- the test of one -/
def C4 : TX := (tOrM (tBl (eBin (fIs true) (eCall (callM f_is_fraction) (aCons (evar 15) aNil)) (cst (.bl true)))) (tBl (eBin (fEq true) (eCall (callM f__law_gcd) (aCons (eBin fIx (evar 15) (cst (.int 0))) (aCons (eBin fIx (evar 15) (cst (.int 1))) aNil))) (cst (.int 1)))))
theorem c4_ok {p : Rat} (hp : Sz 6 p) {E : Env'} (hE : E[15]? = some (some (fr p))) : C4 E [] = .ok false [] := by
  have v : ∀ s, evar 15 E s = .ok (fr p) s := fun _ => evar_ok hE
  have e1 := sp_frac (nrm_rat p)
  have e2 := sp_gcd p.num p.den (lt490 (den_abs hp) (by decide))
  rw [show Int.gcd p.num p.den = 1 from (nrm_rat p).cop] at e2
  unfold C4
  rw [or_f (tBl_ok (bin_to ((call1 (v _)).trans (e1 _)) rfl (by rfl)))]
  exact tBl_ok (bin_to ((call2 (bin_to (v _) rfl (ix0 _ _)) (bin_to (v _) rfl (ix1 _ _))).trans (e2 _)) rfl (ne_same (d := .int 1) rfl rfl))
theorem b4_ok {x0 x2 x3 x5 x6 x7 x8 x9 x10 x11 x12 x13 x14 x15 : Option W} {n : Nat} {p q r : Rat} {st : Sto} {o : Ob} (hp : Sz 6 p) (hq : Sz 6 q) (hr : Sz 6 r) (h : st[0]? = some o) (hn : st[n]? = some (.lst [fr p, fr q, fr r])) :
    ∃ st' : Sto, st'[0]? = some o ∧ b4 [x0, some (.ls 0), x2, x3, some (.ls n), x5, x6, x7, x8, x9, x10, x11, x12, x13, x14, x15] st = .ok (.nx [x0, some (.ls 0), x2, x3, some (.ls n), x5, x6, x7, x8, x9, x10, x11, x12, x13, x14, x15]) st' := by
  have c1 : ∀ (z : Rat) (s : Sto), Sz 6 z → frT [15] C4 [x0, some (.ls 0), x2, x3, some (.ls n), x5, x6, x7, x8, x9, x10, x11, x12, x13, x14, some (fr z)] s = .ok false s := fun z s hz => frT_ok rfl (c4_ok hz rfl)
  have a0 : lsAt st n 0 = some (fr p) := by unfold lsAt; rw [hn]; rfl
  have a1 : lsAt st n 1 = some (fr q) := by unfold lsAt; rw [hn]; rfl
  have a2 : lsAt st n 2 = some (fr r) := by unfold lsAt; rw [hn]; rfl
  have a3 : lsAt st n 3 = none := by unfold lsAt; rw [hn]; rfl
  have hc : compM (.lv n) (.nm 15) (frT [15] C4) (evar 15) [x0, some (.ls 0), x2, x3, some (.ls n), x5, x6, x7, x8, x9, x10, x11, x12, x13, x14, none] 4 0 st = .ok [] st := by
    have k1 := c1 p st hp
    have k2 := c1 q st hq
    have k3 := c1 r st hr
    simp [compM, Src.at, a0, a1, a2, a3, Pat.set, k1, k2, k3]
  have e1 : eComp (iOf (evar 4)) (.nm 15) (frT [15] C4) (evar 15) [15] [x0, some (.ls 0), x2, x3, some (.ls n), x5, x6, x7, x8, x9, x10, x11, x12, x13, x14, x15] st = .ok (.ls st.length) (st ++ [.lst []]) := by
    have hb : Src.bound (.lv n) st = 4 := by unfold Src.bound; simp only [hn]; rfl
    show (R.bind (compM (.lv n) (.nm 15) (frT [15] C4) (evar 15) [x0, some (.ls 0), x2, x3, some (.ls n), x5, x6, x7, x8, x9, x10, x11, x12, x13, x14, none] (Src.bound (.lv n) st) 0 st) _) = _
    rw [hb, hc]
    rfl
  have hl2 : (st ++ [Ob.lst []]).length = st.length + 1 := by simp
  refine ⟨st ++ [.lst []] ++ [.lst []], ?_, ?_⟩
  · rw [List.append_assoc, List.getElem?_append_left (lt_of_get h)]
    exact h
  · refine (if_f ?_).trans rfl
    show frT [4] (tBl (eBin (fEq true) (eComp (iOf (evar 4)) (.nm 15) (frT [15] C4) (evar 15) [15]) (eLst aNil))) _ st = _
    unfold frT
    rw [if_neg (by simp [lowE, W.low])]
    refine tBl_ok (bin_to e1 (y := .ls (st.length + 1)) (s' := st ++ [.lst []] ++ [.lst []]) (by show R.ok (W.ls (st ++ [Ob.lst []]).length) _ = _; rw [hl2]) (ne_same (d := .list []) ?_ ?_))
    · have : (st ++ [Ob.lst []] ++ [Ob.lst []])[st.length]? = some (.lst []) := by simp
      simp [deep, dat, datAll]
    · have : (st ++ [Ob.lst []] ++ [Ob.lst []])[st.length + 1]? = some (.lst []) := by
        rw [← hl2]
        simp
      unfold deep dat
      simp only [this]
      rfl
theorem lap_ok {x0 x2 x3 x4 x5 x6 x7 x8 x9 x10 x11 x12 x13 x14 x15 : Option W} {st : Sto} {o : Ob} {k : Nat} (h : st[0]? = some o) (ht : Tin k o) (hk : k ≤ 800) :
    ∃ (y3 y4 y5 y6 y7 y8 y9 y10 y11 y12 y13 : Option W) (st' : Sto) (o' : Ob), m_lap [x0, some (.ls 0), x2, x3, x4, x5, x6, x7, x8, x9, x10, x11, x12, x13, x14, x15] st = .ok (.nx [x0, some (.ls 0), x2, y3, y4, y5, y6, y7, y8, y9, y10, y11, y12, y13, x14, x15]) st' ∧ st'[0]? = some o' ∧ Tin (k + 10) o' := by
  obtain ⟨M, o1, st1, hM1, hM2, t1, h1, e1⟩ := b1_ok (env := [x0, some (.ls 0), x2, x3, x4, x5, x6, x7, x8, x9, x10, x11, x12, x13, x14, x15]) rfl h ht (by omega)
  obtain ⟨p, q, r, o2, n, st2, hp, hq, hr, t2, h2, hn, e2⟩ := b2_ok (env := [x0, some (.ls 0), x2, some (.int M), x4, x5, x6, x7, x8, x9, x10, x11, x12, x13, x14, x15]) rfl rfl hM1 hM2 h1 t1 (by omega)
  have e3 : b3 [x0, some (.ls 0), x2, some (.int M), some (.ls n), x5, x6, x7, x8, x9, x10, x11, x12, x13, x14, x15] st2 = .ok (.nx [x0, some (.ls 0), x2, some (.int M), some (.ls n), some (fr p), some (fr q), some (fr r), x8, x9, x10, x11, x12, x13, x14, x15]) st2 := by
    simp [b3, sPat, Pat.set, seqW, evar, R.bind, hn, setAll]
  obtain ⟨st4, h4, e4⟩ := b4_ok (x0 := x0) (x2 := x2) (x3 := some (.int M)) (x5 := some (fr p)) (x6 := some (fr q)) (x7 := some (fr r)) (x8 := x8) (x9 := x9) (x10 := x10) (x11 := x11) (x12 := x12) (x13 := x13) (x14 := x14) (x15 := x15) hp hq hr h2 hn
  have e5 : b5 [x0, some (.ls 0), x2, some (.int M), some (.ls n), some (fr p), some (fr q), some (fr r), x8, x9, x10, x11, x12, x13, x14, x15] st4 = .ok (.nx [x0, some (.ls 0), x2, some (.int M), some (.ls n), some (fr p), some (fr q), some (fr r), some (fr (p + q)), some (fr (p * q)), x10, x11, x12, x13, x14, x15]) st4 := by
    have a1 := sp_sum hp hq (by omega) st4
    have a2 := sp_prod hp hq (by omega) st4
    simp [b5, sPar, eCall, aCons, aNil, evar, R.bind, a1, a2]
  have e6 : b6 [x0, some (.ls 0), x2, some (.int M), some (.ls n), some (fr p), some (fr q), some (fr r), some (fr (p + q)), some (fr (p * q)), x10, x11, x12, x13, x14, x15] st4 = .ok (.nx [x0, some (.ls 0), x2, some (.int M), some (.ls n), some (fr p), some (fr q), some (fr r), some (fr (p + q)), some (fr (p * q)), x10, x11, x12, x13, x14, x15]) st4 := test_nx rfl (t2_ok hp hq)
  have e7 : b7 [x0, some (.ls 0), x2, some (.int M), some (.ls n), some (fr p), some (fr q), some (fr r), some (fr (p + q)), some (fr (p * q)), x10, x11, x12, x13, x14, x15] st4 = .ok (.nx [x0, some (.ls 0), x2, some (.int M), some (.ls n), some (fr p), some (fr q), some (fr r), some (fr (p + q)), some (fr (p * q)), x10, x11, x12, x13, x14, x15]) st4 := test_nx rfl (t3_ok hp hq hr)
  have e8 : b8 [x0, some (.ls 0), x2, some (.int M), some (.ls n), some (fr p), some (fr q), some (fr r), some (fr (p + q)), some (fr (p * q)), x10, x11, x12, x13, x14, x15] st4 = .ok (.nx [x0, some (.ls 0), x2, some (.int M), some (.ls n), some (fr p), some (fr q), some (fr r), some (fr (p + q)), some (fr (p * q)), x10, x11, x12, x13, x14, x15]) st4 := test_nx rfl (t4_ok hp hq hr)
  obtain ⟨s5, t5⟩ := t5_ok hp hq
  have e9 : b9 [x0, some (.ls 0), x2, some (.int M), some (.ls n), some (fr p), some (fr q), some (fr r), some (fr (p + q)), some (fr (p * q)), x10, x11, x12, x13, x14, x15] st4 = .ok (.nx [x0, some (.ls 0), x2, some (.int M), some (.ls n), some (fr p), some (fr q), some (fr r), some (fr (p + q)), some (fr (p * q)), x10, x11, x12, x13, x14, x15]) st4 := test_nx rfl t5
  have e10 : b10 [x0, some (.ls 0), x2, some (.int M), some (.ls n), some (fr p), some (fr q), some (fr r), some (fr (p + q)), some (fr (p * q)), x10, x11, x12, x13, x14, x15] st4 = .ok (.nx [x0, some (.ls 0), x2, some (.int M), some (.ls n), some (fr p), some (fr q), some (fr r), some (fr (p + q)), some (fr (p * q)), x10, x11, x12, x13, x14, x15]) st4 := test_nx rfl (t6_ok hp hq)
  obtain ⟨d1, o5, l1, u1, t5', tk1⟩ := take_ok h4 t2 (by omega) (b := 8) (by decide) (by decide)
  have h5 : (st4.set 0 o5)[0]? = some o5 := by rw [List.getElem?_set_self (lt_of_get h4)]
  obtain ⟨d2, o6, l2, u2, t6', tk2⟩ := take_ok h5 t5' (by omega) (b := 8) (by decide) (by decide)
  have h6 : ((st4.set 0 o5).set 0 o6)[0]? = some o6 := by rw [List.getElem?_set_self (lt_of_get h5)]
  obtain ⟨m1, rfl⟩ : ∃ m : Nat, d1 = m := ⟨d1.toNat, by omega⟩
  obtain ⟨m2, rfl⟩ : ∃ m : Nat, d2 = m := ⟨d2.toNat, by omega⟩
  have e11 : b11 [x0, some (.ls 0), x2, some (.int M), some (.ls n), some (fr p), some (fr q), some (fr r), some (fr (p + q)), some (fr (p * q)), x10, x11, x12, x13, x14, x15] st4 = .ok (.nx [x0, some (.ls 0), x2, some (.int M), some (.ls n), some (fr p), some (fr q), some (fr r), some (fr (p + q)), some (fr (p * q)), some (.int (m1 : Nat)), some (.int (m2 : Nat)), x12, x13, x14, x15]) ((st4.set 0 o5).set 0 o6) := by
    unfold b11 sPar
    have a1 : aCons (eCall (callM f__law_take) (aCons (evar 1) (aCons (cst (.int 8)) aNil))) (aCons (eCall (callM f__law_take) (aCons (evar 1) (aCons (cst (.int 8)) aNil))) aNil) [x0, some (.ls 0), x2, some (.int M), some (.ls n), some (fr p), some (fr q), some (fr r), some (fr (p + q)), some (fr (p * q)), x10, x11, x12, x13, x14, x15] st4 = .ok [.int (m1 : Nat), .int (m2 : Nat)] ((st4.set 0 o5).set 0 o6) := by
      have g1 := (call2 (f := callM f__law_take) (ma := evar 1) (mb := cst (.int 8)) (env := [x0, some (.ls 0), x2, some (.int M), some (.ls n), some (fr p), some (fr q), some (fr r), some (fr (p + q)), some (fr (p * q)), x10, x11, x12, x13, x14, x15]) (st := st4) (x := .ls 0) (y := .int 8) rfl rfl).trans tk1
      have g2 := (call2 (f := callM f__law_take) (ma := evar 1) (mb := cst (.int 8)) (env := [x0, some (.ls 0), x2, some (.int M), some (.ls n), some (fr p), some (fr q), some (fr r), some (fr (p + q)), some (fr (p * q)), x10, x11, x12, x13, x14, x15]) (st := st4.set 0 o5) (x := .ls 0) (y := .int 8) rfl rfl).trans tk2
      generalize hg : eCall (callM f__law_take) (aCons (evar 1) (aCons (cst (.int 8)) aNil)) = g at g1 g2 ⊢
      simp only [aCons, aNil, R.bind, g1, g2]
    rw [a1]
    rfl
  have e12 : b12 [x0, some (.ls 0), x2, some (.int M), some (.ls n), some (fr p), some (fr q), some (fr r), some (fr (p + q)), some (fr (p * q)), some (.int (m1 : Nat)), some (.int (m2 : Nat)), x12, x13, x14, x15] ((st4.set 0 o5).set 0 o6) = .ok (.nx [x0, some (.ls 0), x2, some (.int M), some (.ls n), some (fr p), some (fr q), some (fr r), some (fr (p + q)), some (fr (p * q)), some (.int (m1 : Nat)), some (.int (m2 : Nat)), some (fr (p ^ m1)), x13, x14, x15]) ((st4.set 0 o5).set 0 o6) :=
    pat_nm (fr_ok rfl ((call2 (x := fr p) (y := .int (m1 : Nat)) rfl rfl).trans (sp_fpower hp m1 (by omega) (by omega) [])) rfl)
  have e13 : b13 [x0, some (.ls 0), x2, some (.int M), some (.ls n), some (fr p), some (fr q), some (fr r), some (fr (p + q)), some (fr (p * q)), some (.int (m1 : Nat)), some (.int (m2 : Nat)), some (fr (p ^ m1)), x13, x14, x15] ((st4.set 0 o5).set 0 o6) = .ok (.nx [x0, some (.ls 0), x2, some (.int M), some (.ls n), some (fr p), some (fr q), some (fr r), some (fr (p + q)), some (fr (p * q)), some (.int (m1 : Nat)), some (.int (m2 : Nat)), some (fr (p ^ m1)), x13, x14, x15]) ((st4.set 0 o5).set 0 o6) := test_nx rfl (t7_ok hp m1 m2 (by omega) (by omega))
  obtain ⟨d3, o7, l3, u3, t7', tk3⟩ := take_ok h6 t6' (by omega) (b := 50) (by decide) (by decide)
  have h7 : (((st4.set 0 o5).set 0 o6).set 0 o7)[0]? = some o7 := by rw [List.getElem?_set_self (lt_of_get h6)]
  generalize hst7 : ((st4.set 0 o5).set 0 o6).set 0 o7 = st7 at tk3 h7
  have e14 : b14 [x0, some (.ls 0), x2, some (.int M), some (.ls n), some (fr p), some (fr q), some (fr r), some (fr (p + q)), some (fr (p * q)), some (.int (m1 : Nat)), some (.int (m2 : Nat)), some (fr (p ^ m1)), x13, x14, x15] ((st4.set 0 o5).set 0 o6) = .ok (.nx [x0, some (.ls 0), x2, some (.int M), some (.ls n), some (fr p), some (fr q), some (fr r), some (fr (p + q)), some (fr (p * q)), some (.int (m1 : Nat)), some (.int (m2 : Nat)), some (fr (p ^ m1)), some (.int (1 + d3)), x14, x15]) st7 :=
    pat_nm ((fr_no rfl).trans (bin_to rfl ((call2 (x := .ls 0) (y := .int 50) rfl rfl).trans tk3) rfl))
  have m1' : ∀ z : Int, mulC z (1 + d3) = true := fun z => mulC_r (small63_of (by omega))
  obtain ⟨z, hz1, hz2, e15⟩ : ∃ z : Int, 0 < z ∧ z ≤ 100 ∧ b15 [x0, some (.ls 0), x2, some (.int M), some (.ls n), some (fr p), some (fr q), some (fr r), some (fr (p + q)), some (fr (p * q)), some (.int (m1 : Nat)), some (.int (m2 : Nat)), some (fr (p ^ m1)), some (.int (1 + d3)), x14, x15] st7 = .ok (.nx [x0, some (.ls 0), x2, some (.int M), some (.ls n), some (fr p), some (fr q), some (fr r), some (fr (p + q)), some (fr (p * q)), some (.int (m1 : Nat)), some (.int (m2 : Nat)), some (fr (p ^ m1)), some (.int z), x14, x15]) st7 := by
    have w1 : tBl (eBin (fCmp gtI) (eBin fMul (eCall (f1 gAbs) (aCons (eBin fIx (evar 5) (cst (.int 0))) aNil)) (evar 13)) (eBin fPow (cst (.int 10)) (cst (.int 6)))) [x0, some (.ls 0), x2, some (.int M), some (.ls n), some (fr p), some (fr q), some (fr r), some (fr (p + q)), some (fr (p * q)), some (.int (m1 : Nat)), some (.int (m2 : Nat)), some (fr (p ^ m1)), some (.int (1 + d3)), x14, x15] st7 = .ok (gtI ((if p.num < 0 then -p.num else p.num) * (1 + d3)) 1000000) st7 := by
      refine tBl_ok (bin_to (x := .int ((if p.num < 0 then -p.num else p.num) * (1 + d3))) (y := .int 1000000) (s := st7) (s' := st7) (bin_to (x := .int (if p.num < 0 then -p.num else p.num)) (y := .int (1 + d3)) (s := st7) (s' := st7) rfl rfl ?_) rfl rfl)
      show (if mulC (if p.num < 0 then -p.num else p.num) (1 + d3) = true then R.ok (W.int ((if p.num < 0 then -p.num else p.num) * (1 + d3))) st7 else R.err) = _
      rw [if_pos (m1' _)]
    have w2 : tBl (eBin (fCmp gtI) (eBin fMul (eBin fIx (evar 5) (cst (.int 1))) (evar 13)) (eBin fPow (cst (.int 10)) (cst (.int 6)))) [x0, some (.ls 0), x2, some (.int M), some (.ls n), some (fr p), some (fr q), some (fr r), some (fr (p + q)), some (fr (p * q)), some (.int (m1 : Nat)), some (.int (m2 : Nat)), some (fr (p ^ m1)), some (.int (1 + d3)), x14, x15] st7 = .ok (gtI ((p.den : Int) * (1 + d3)) 1000000) st7 := by
      refine tBl_ok (bin_to (x := .int ((p.den : Int) * (1 + d3))) (y := .int 1000000) (s := st7) (s' := st7) (bin_to (x := .int (p.den : Int)) (y := .int (1 + d3)) (s := st7) (s' := st7) rfl rfl ?_) rfl rfl)
      show (if mulC (p.den : Int) (1 + d3) = true then R.ok (W.int ((p.den : Int) * (1 + d3))) st7 else R.err) = _
      rw [if_pos (m1' _)]
    cases hb1 : gtI ((if p.num < 0 then -p.num else p.num) * (1 + d3)) 1000000 with
    | true =>
      rw [hb1] at w1
      exact ⟨1, by decide, by decide, (if_t (or_t w1)).trans rfl⟩
    | false =>
      rw [hb1] at w1
      cases hb2 : gtI ((p.den : Int) * (1 + d3)) 1000000 with
      | true =>
        rw [hb2] at w2
        exact ⟨1, by decide, by decide, (if_t ((or_f w1).trans w2)).trans rfl⟩
      | false =>
        rw [hb2] at w2
        exact ⟨1 + d3, by omega, by omega, (if_f ((or_f w1).trans w2)).trans rfl⟩
  have e16 : b16 [x0, some (.ls 0), x2, some (.int M), some (.ls n), some (fr p), some (fr q), some (fr r), some (fr (p + q)), some (fr (p * q)), some (.int (m1 : Nat)), some (.int (m2 : Nat)), some (fr (p ^ m1)), some (.int z), x14, x15] st7 = .ok (.nx [x0, some (.ls 0), x2, some (.int M), some (.ls n), some (fr p), some (fr q), some (fr r), some (fr (p + q)), some (fr (p * q)), some (.int (m1 : Nat)), some (.int (m2 : Nat)), some (fr (p ^ m1)), some (.int z), x14, x15]) st7 := test_nx rfl (t8_ok hp z hz1 hz2)
  refine ⟨some (.int M), some (.ls n), some (fr p), some (fr q), some (fr r), some (fr (p + q)), some (fr (p * q)), some (.int (m1 : Nat)), some (.int (m2 : Nat)), some (fr (p ^ m1)), some (.int z), st7, o7, ?_, h7, t7'.mono (by omega)⟩
  unfold m_lap
  rw [seq_nx e1]
  show sSeq b2 _ [x0, some (.ls 0), x2, some (.int M), x4, x5, x6, x7, x8, x9, x10, x11, x12, x13, x14, x15] st1 = _
  rw [seq_nx e2]
  show sSeq b3 _ [x0, some (.ls 0), x2, some (.int M), some (.ls n), x5, x6, x7, x8, x9, x10, x11, x12, x13, x14, x15] st2 = _
  rw [seq_nx e3, seq_nx e4, seq_nx e5, seq_nx e6, seq_nx e7, seq_nx e8, seq_nx e9, seq_nx e10, seq_nx e11, seq_nx e12, seq_nx e13, seq_nx e14, seq_nx e15]
  exact e16
theorem law_true (ns : List Int) (h : ns.length ≤ 63) : ∃ st', f_law [.frz ns] [] = .ok (.bl true) st' := by
  obtain ⟨c, e1⟩ := cells_ok ns h
  obtain ⟨o, ht, e2⟩ := box_ok c
  obtain ⟨t0, t1, t2, rfl, _, _, _⟩ := id ht
  have e0 : b0 [some (.frz ns), none, none, none, none, none, none, none, none, none, none, none, none, none, none, none] [] = .ok (.nx [some (.frz ns), some (.ls 0), none, none, none, none, none, none, none, none, none, none, none, none, none, none]) [.lst [.int t0, .int t1, .int t2]] := by
    refine pat_nm (i := 1) ?_
    show pureR [] (eCall (callM f__law_box) (aCons (eCall (callM f__law_cells) (aCons (evar 0) (aCons (cst (.int 1)) aNil))) (aCons (cst (.int 0)) aNil)) [some (.frz ns), none, none, none, none, none, none, none, none, none, none, none, none, none, none, none] []) = _
    rw [(call2 ((call2 (x := .frz ns) (y := .int 1) (s := []) (s' := []) rfl rfl).trans e1) (y := .int 0) (s' := [.lst [.int c]]) rfl).trans e2]
    rfl
  obtain ⟨env', st', e3, x2, x3, x4, x5, x6, x7, x8, x9, x10, x11, x12, x13, x14, x15, o', rfl, ho', _⟩ := for_all (i := 2) (body := m_lap) (xs := rngW 0 1 8) (env := [some (.frz ns), some (.ls 0), none, none, none, none, none, none, none, none, none, none, none, none, none, none]) (st := [.lst [.int t0, .int t1, .int t2]])
    (Inv := fun j env st => ∃ (x2 x3 x4 x5 x6 x7 x8 x9 x10 x11 x12 x13 x14 x15 : Option W) (o : Ob), env = [some (.frz ns), some (.ls 0), x2, x3, x4, x5, x6, x7, x8, x9, x10, x11, x12, x13, x14, x15] ∧ st[0]? = some o ∧ Tin (10 * j) o)
    ⟨none, none, none, none, none, none, none, none, none, none, none, none, none, none, _, rfl, rfl, ht⟩ (by
      rintro j x env st hj ⟨x2, x3, x4, x5, x6, x7, x8, x9, x10, x11, x12, x13, x14, x15, o, rfl, ho, ht⟩
      have hj8 : j < 8 := (List.getElem?_eq_some_iff.mp hj).1
      obtain ⟨y3, y4, y5, y6, y7, y8, y9, y10, y11, y12, y13, st', o', e, ho', ht'⟩ := lap_ok (x0 := some (.frz ns)) (x2 := some x) (x3 := x3) (x4 := x4) (x5 := x5) (x6 := x6) (x7 := x7) (x8 := x8) (x9 := x9) (x10 := x10) (x11 := x11) (x12 := x12) (x13 := x13) (x14 := x14) (x15 := x15) ho ht (by omega)
      exact ⟨_, st', e, some x, y3, y4, y5, y6, y7, y8, y9, y10, y11, y12, y13, x14, x15, o', rfl, ho', ht'.mono (by omega)⟩)
  refine ⟨st', mk_rt rfl ?_⟩
  rw [m_law_eq]
  show sSeq b0 _ [some (.frz ns), none, none, none, none, none, none, none, none, none, none, none, none, none, none, none] [] = _
  rw [seq_nx e0]
  have e4 : sFor (iRange (aCons (cst (.int 8)) aNil)) (.nm 2) m_lap [some (.frz ns), some (.ls 0), none, none, none, none, none, none, none, none, none, none, none, none, none, none] [.lst [.int t0, .int t1, .int t2]] = .ok (.nx [some (.frz ns), some (.ls 0), x2, x3, x4, x5, x6, x7, x8, x9, x10, x11, x12, x13, x14, x15]) st' := by
    show forM (.fix (rngW 0 1 8)) (.nm 2) m_lap ((rngW 0 1 8).length + 1) 0 _ _ = _
    exact e3
  rw [seq_nx e4]
  rfl
end Rx.K84



namespace Rx.K84
open PySem PySem.Spec PyProof.Rows L2 Rx
def fn : List He.DefD := ([dat1 "is_number" "is_number" s_is_number, dat1 "is_from" "is_from" s_is_from, dat1 "is_long" "is_long" s_is_long, dat1 "tupled" "tupled" s_tupled, dat1 "power_of" "power_of" s_power_of, dat1 "is_fraction" "is_fraction" s_is_fraction, dat1 "lowest" "lowest" s_lowest, dat1 "sure_fraction" "sure_fraction" s_sure_fraction, dat1 "added" "added" s_added, dat1 "times" "times" s_times, dat1 "over" "over" s_over, dat1 "power" "power" s_power, dat1 "fraction" "fraction" s_fraction, dat1 "fraction_sum" "fraction_sum" s_fraction_sum, dat1 "fraction_product" "fraction_product" s_fraction_product, dat1 "fraction_over" "fraction_over" s_fraction_over, dat1 "fraction_power" "fraction_power" s_fraction_power, dat1 "_law_box" "_law_box" s__law_box, dat1 "_law_take" "_law_take" s__law_take, dat1 "_law_cells" "_law_cells" s__law_cells, dat1 "_law_of" "_law_of" s__law_of, dat1 "_law_same" "_law_same" s__law_same, dat1 "_law_unmarked" "_law_unmarked" s__law_unmarked, dat1 "_law_gcd" "_law_gcd" s__law_gcd, dat1 "_law_cut" "_law_cut" s__law_cut, dat1 "_law_mul" "_law_mul" s__law_mul, dat1 "_law_pow" "_law_pow" s__law_pow, dat1 "_law_over" "_law_over" s__law_over, dat1 "law" "law" s_law] : List He.DefD)
def fa0 : List He.Fa := ([.glo "is_number", .glo "is_from", .glo "is_long", .glo "tupled", .glo "power_of", .glo "is_fraction", .glo "lowest", .glo "sure_fraction", .glo "added", .glo "times", .glo "over", .glo "power", .glo "fraction", .glo "fraction_sum", .glo "fraction_product", .glo "fraction_over", .glo "fraction_power", .glo "_law_box", .glo "_law_take", .glo "_law_cells", .glo "_law_of", .glo "_law_same", .glo "_law_unmarked", .glo "_law_gcd", .glo "_law_cut", .glo "_law_mul", .glo "_law_pow", .glo "_law_over", .glo "law", .int "MOST_POWER" 1000] : List He.Fa) ++ ([.glo "NOUGHT", .glo "ONE"] : List He.Fa)
def fa : List He.Fa := fa0 ++ bnames.map He.Fa.free
def ck (K : PySem.W.Frag) : Bool := (He.tupB K "NOUGHT" [.int 0, .int 1] && (He.tupB K "ONE" [.int 1, .int 1] && (bltB K "gcd" "math.gcd" && (errB K "CanNot" && true))))
abbrev R : PySem.W.OpenRow := PySem.W.OpenLaw.row PySem.Challenge.rw_kissroads_k84_across_fractions_by_rules
abbrev hk : PySem.W.Hook := hookK 4 ck fa fn
def ob (s : PySem.W.SharedT) : He.AlD := obsKG 4 ck fa fn (HandSHeadRun.getT s)
theorem ob_eq (s : PySem.W.SharedT) : ob s = hk.obs s.abs := obsKG_eq (HandSHeadRun.getT_eq s)
def loose : List Str := (["CanNot", "Unfit", "is_number", "is_from", "is_long", "tupled", "power_of", "NOUGHT", "ONE", "MOST_POWER", "is_fraction", "lowest", "sure_fraction", "added", "times", "over", "power", "fraction", "fraction_sum", "fraction_product", "fraction_over", "fraction_power", "_law_box", "_law_take", "_law_cells", "_law_of", "_law_same", "_law_unmarked", "_law_gcd", "_law_cut"] : List Str) ++ (["_law_mul", "_law_pow", "_law_over"] : List Str)
theorem run (w : World) : HandSHeadRun.RunEqI R (PySem.W.view R.prog [0, 38]) hk ob 2560 loose w := by
  unfold HandSHeadRun.RunEqI
  kernel_rfl
theorem hh_of {K : PySem.W.Frag} {h : Heap} {mg : Str → Option Value} (X : K.In h) (G : h.Ns mainGlobals mg) (c : Tells ck fa fn K) : HH K mg := by
  have hf : ∀ f, f ∈ fa0 → f ∈ fa := fun f h => List.mem_append_left _ h
  have hc := c.all.2.2
  unfold ck at hc
  simp only [Bool.and_eq_true] at hc
  exact {
    F_is_number := c.fun_ X G 0 rfl (hf _ (by unfold fa0; simp))
    F_is_from := c.fun_ X G 1 rfl (hf _ (by unfold fa0; simp))
    F_is_long := c.fun_ X G 2 rfl (hf _ (by unfold fa0; simp))
    F_tupled := c.fun_ X G 3 rfl (hf _ (by unfold fa0; simp))
    F_power_of := c.fun_ X G 4 rfl (hf _ (by unfold fa0; simp))
    F_is_fraction := c.fun_ X G 5 rfl (hf _ (by unfold fa0; simp))
    F_lowest := c.fun_ X G 6 rfl (hf _ (by unfold fa0; simp))
    F_sure_fraction := c.fun_ X G 7 rfl (hf _ (by unfold fa0; simp))
    F_added := c.fun_ X G 8 rfl (hf _ (by unfold fa0; simp))
    F_times := c.fun_ X G 9 rfl (hf _ (by unfold fa0; simp))
    F_over := c.fun_ X G 10 rfl (hf _ (by unfold fa0; simp))
    F_power := c.fun_ X G 11 rfl (hf _ (by unfold fa0; simp))
    F_fraction := c.fun_ X G 12 rfl (hf _ (by unfold fa0; simp))
    F_fraction_sum := c.fun_ X G 13 rfl (hf _ (by unfold fa0; simp))
    F_fraction_product := c.fun_ X G 14 rfl (hf _ (by unfold fa0; simp))
    F_fraction_over := c.fun_ X G 15 rfl (hf _ (by unfold fa0; simp))
    F_fraction_power := c.fun_ X G 16 rfl (hf _ (by unfold fa0; simp))
    F__law_box := c.fun_ X G 17 rfl (hf _ (by unfold fa0; simp))
    F__law_take := c.fun_ X G 18 rfl (hf _ (by unfold fa0; simp))
    F__law_cells := c.fun_ X G 19 rfl (hf _ (by unfold fa0; simp))
    F__law_of := c.fun_ X G 20 rfl (hf _ (by unfold fa0; simp))
    F__law_same := c.fun_ X G 21 rfl (hf _ (by unfold fa0; simp))
    F__law_unmarked := c.fun_ X G 22 rfl (hf _ (by unfold fa0; simp))
    F__law_gcd := c.fun_ X G 23 rfl (hf _ (by unfold fa0; simp))
    F__law_cut := c.fun_ X G 24 rfl (hf _ (by unfold fa0; simp))
    F__law_mul := c.fun_ X G 25 rfl (hf _ (by unfold fa0; simp))
    F__law_pow := c.fun_ X G 26 rfl (hf _ (by unfold fa0; simp))
    F__law_over := c.fun_ X G 27 rfl (hf _ (by unfold fa0; simp))
    F_law := c.fun_ X G 28 rfl (hf _ (by unfold fa0; simp))
    c_NOUGHT := tupC X G c (vs := [.int 0, .int 1]) (hf _ (by unfold fa0; simp)) hc.1 rfl
    c_ONE := tupC X G c (vs := [.int 1, .int 1]) (hf _ (by unfold fa0; simp)) hc.2.1 rfl
    c_MOST_POWER := c.int X G (hf _ (by unfold fa0; simp))
    gcd := bltB_ok X G hc.2.2.1
    er := ⟨_, errB_ok X G hc.2.2.2.1⟩ }
end Rx.K84
open PySem PySem.W PySem.Calls PyProof.Rows
theorem PySem.Challenge.cw_kissroads_k84_across_fractions_by_rules_holds : PySem.Challenge.rw_kissroads_k84_across_fractions_by_rules.Holds := by
  w_on; o_law
  refine HandSHeadRun.head_imp (r := OpenLaw.row PySem.Challenge.rw_kissroads_k84_across_fractions_by_rules) (q := view (OpenLaw.row PySem.Challenge.rw_kissroads_k84_across_fractions_by_rules).prog [0, 38]) (H := Rx.K84.hk) (ob := Rx.K84.ob) (M := 2560) (loose := Rx.K84.loose) (d := HandSHeadRun.topDef (OpenLaw.row PySem.Challenge.rw_kissroads_k84_across_fractions_by_rules).prog 38) (kwd := []) Rx.K84.ob_eq
    Rx.K84.run (by kernel_rfl) (by kernel_rfl) (by kernel_rfl) (by rfl) (by first | assumption | decide +kernel) (by decide +kernel) ⟨rfl, rfl, rfl, rfl, rfl, by decide +kernel⟩ ?hw ?hc
  case hw => w_witness2
  case hc =>
    refine L2.walk_ofE (l := PySem.Challenge.rw_kissroads_k84_across_fractions_by_rules) (n := 63) (k := 13) (x := "script") (CX := L2.CX0) rfl (by decide) (by kernel_rfl) ⟨rfl, by decide, by decide⟩ ?F (fun _ _ _ _ z => z)
    intro w mg fa h Y G hmg0
    obtain ⟨K, KX, c⟩ := Y
    have hmg : mg ("law" : PySem.Str) = some (.ref fa) := by
      have e : (HandSHeadRun.topDef (OpenLaw.row PySem.Challenge.rw_kissroads_k84_across_fractions_by_rules).prog 38).name = ("law" : PySem.Str) := by kernel_rfl
      rw [← e]
      exact hmg0
    have hh := Rx.K84.hh_of KX G c
    have hB := c.bn KX G fun x hx => List.mem_append_right _ (List.mem_map.mpr ⟨x, hx, rfl⟩)
    obtain ⟨a, fd, FT, hm2⟩ := hh.F_law
    have ea : a = fa := by
      have := hm2.symm.trans hmg
      cases this
      rfl
    subst ea
    refine ⟨K, fd, Rx.lP K 1 Rx.K84.f_law, KX, fun s u => ?_, fun H a ns hl hO hS => Rx.lP_law hO hS (Rx.K84.law_true ns hl), fun base _ _ => Rx.K84.fn_law hh hB FT⟩
    exact Rx.K84.bind_law FT s u
