import PyProof.Rows.All
import HandS.ForMost
import HandS.Deep
import HandS.Style
import HandS.Zip
import HandS.Walk
import HandS.TupAny
import HandS.TupMul
import HandS.IsInst
import HandS.Wide
import HandS.Gcd
import HandS.Flow
import HandS.Comp
import PyProof.P3In
import HandS.Conv
import HandS.NoneIn
import KE.GoesEnum
import HandS.ExcOwn
import HandS.ExcIs
import HandS.Head0
import HandS.Head1
import HandS.Head2
import HandS.HeadEnd
import HandS.HeadHook1
import HandS.HeadHook2
import HandS.Words
import HandS.WordsExc
import KE.SortData
import PyProof.Transfer
import HandS.Star
import HandS.SetFor
import KE.DataCmp
import HandS.TupSets
import PySem.Challenge.RW_kissroads_k70_across_links_and_bits
set_option Elab.async false
set_option linter.all false
set_option maxRecDepth 100000
/-! RxA: values by structure, a store of objects that change, how both stand for the layer's values and heap. -/
namespace Rx
open PySem PySem.Spec PyProof.Rows L2

/-- a value by its structure; ls n: the n-th object of the store -/
inductive W where
  | non | bl (b : Bool) | int (i : Int) | str (x : Str) | ty (n : String)
  | tup (xs : List W) | ls (n : Nat) | frz (ns : List Int)

/-- an object that may change -/
inductive Ob where
  | lst (xs : List W)

abbrev Sto := List Ob

/-- what a mirror answers: a value and the store, or nothing is said -/
inductive R (α : Type) where
  | ok (a : α) (st : Sto)
  | err

abbrev Env' := List (Option W)
abbrev EX := Env' → Sto → R W
abbrev TX := Env' → Sto → R Bool
abbrev AX := Env' → Sto → R (List W)
abbrev FX := List W → Sto → R W

@[inline] def R.bind {α β : Type} (r : R α) (k : α → Sto → R β) : R β := match r with
  | .ok a st => k a st
  | .err => .err
theorem R.bind_ok {α β : Type} {r : R α} {k : α → Sto → R β} {b : β} {st' : Sto} (h : r.bind k = .ok b st') : ∃ a st, r = .ok a st ∧ k a st = .ok b st' := by
  cases r with
  | ok a st => exact ⟨a, st, rfl, h⟩
  | err => cases h

/-- a tuple, tracked or written -/
def Tp (K : PySem.W.Frag) (H : Hp) (a : Addr) (xs : List V) : Prop := H a = some (.tup xs) ∨
    ∃ (o : Obj) (its : Array Value) (n : Nat), K.lookup a = some o ∧ o.cls = .type "tuple" ∧ o.data = .seq its n ∧ its.size ≤ sizeLine ∧ Vals xs its.toList
theorem Tp.sq {K : PySem.W.Frag} {H : Hp} {a : Addr} {xs : List V} (h : Tp K H a xs) : SqT K H a xs := by
  rcases h with h | h
  · exact .inl (.inl h)
  · exact .inr h
/-- the script -/
def Fz (K : PySem.W.Frag) (H : Hp) (a : Addr) (ns : List Int) : Prop := (∃ o, H a = some (.frz o (.lst (ns.map V.int)))) ∨
    ∃ (o : Obj) (its : Array Value) (n : Nat), K.lookup a = some o ∧ o.cls = .type "list" ∧ o.dict = none ∧ o.data = .seq its n ∧ its.size ≤ sizeLine ∧ Vals (ns.map V.int) its.toList
theorem Fz.sq {K : PySem.W.Frag} {H : Hp} {a : Addr} {ns : List Int} (h : Fz K H a ns) : SqL K H a (ns.map V.int) := by
  rcases h with ⟨o, h⟩ | h
  · exact .inl (.inr ⟨o, h⟩)
  · exact .inr h

mutual
inductive Rep (K : PySem.W.Frag) (μ : Nat → Addr) (L : Nat) (H : Hp) : V → W → Prop
  | non : Rep K μ L H .non .non
  | bl (b : Bool) : Rep K μ L H (.bl b) (.bl b)
  | int (i : Int) : Rep K μ L H (.int i) (.int i)
  | str (x : Str) : Rep K μ L H (.str x) (.str x)
  | ty (n : String) : Rep K μ L H (.ty n) (.ty n)
  | tup {a : Addr} {vs : List V} {ws : List W} : Tp K H a vs → Reps K μ L H vs ws → Rep K μ L H (.ref a) (.tup ws)
  | ls {n : Nat} : n < L → Rep K μ L H (.ref (μ n)) (.ls n)
  | frz {a : Addr} {ns : List Int} : Fz K H a ns → Rep K μ L H (.ref a) (.frz ns)
inductive Reps (K : PySem.W.Frag) (μ : Nat → Addr) (L : Nat) (H : Hp) : List V → List W → Prop
  | nil : Reps K μ L H [] []
  | cons {v : V} {vs : List V} {w : W} {ws : List W} : Rep K μ L H v w → Reps K μ L H vs ws → Reps K μ L H (v :: vs) (w :: ws)
end

section
variable {K : PySem.W.Frag} {μ μ' : Nat → Addr} {L L' : Nat} {H H' : Hp}
mutual
theorem Rep.step (tp : ∀ a xs, Tp K H a xs → Tp K H' a xs) (fz : ∀ a ns, Fz K H a ns → Fz K H' a ns) (mu : ∀ i, i < L → μ' i = μ i) (le : L ≤ L') : ∀ {v : V} {w : W}, Rep K μ L H v w → Rep K μ' L' H' v w
  | _, _, .non => .non
  | _, _, .bl b => .bl b
  | _, _, .int i => .int i
  | _, _, .str x => .str x
  | _, _, .ty n => .ty n
  | _, _, .tup h r => .tup (tp _ _ h) (Reps.step tp fz mu le r)
  | _, _, .ls (n := n) h => by
    rw [← mu n h]
    exact .ls (Nat.lt_of_lt_of_le h le)
  | _, _, .frz h => .frz (fz _ _ h)
theorem Reps.step (tp : ∀ a xs, Tp K H a xs → Tp K H' a xs) (fz : ∀ a ns, Fz K H a ns → Fz K H' a ns) (mu : ∀ i, i < L → μ' i = μ i) (le : L ≤ L') : ∀ {vs : List V} {ws : List W}, Reps K μ L H vs ws → Reps K μ' L' H' vs ws
  | _, _, .nil => .nil
  | _, _, .cons r rs => .cons (Rep.step tp fz mu le r) (Reps.step tp fz mu le rs)
end
end

/-! has no ref to the store from L on -/
mutual
def W.low (L : Nat) : W → Bool
  | .tup xs => W.lows L xs
  | .ls n => Nat.blt n L
  | _ => true
def W.lows (L : Nat) : List W → Bool
  | [] => true
  | x :: xs => x.low L && W.lows L xs
end
section
variable {K : PySem.W.Frag} {μ μ' : Nat → Addr} {L L' : Nat} {H : Hp}
/-! refs below M alone: it stands for the value at any store as long -/
mutual
theorem Rep.cut {M : Nat} (mu : ∀ i, i < M → i < L → μ' i = μ i) (hM : M ≤ L') : ∀ {v : V} {w : W}, Rep K μ L H v w → w.low M = true → Rep K μ' L' H v w
  | _, _, .non, _ => .non
  | _, _, .bl b, _ => .bl b
  | _, _, .int i, _ => .int i
  | _, _, .str x, _ => .str x
  | _, _, .ty n, _ => .ty n
  | _, _, .tup h r, e => .tup h (Reps.cut mu hM r (by simpa [W.low] using e))
  | _, _, .ls (n := n) h, e => by
    have e' : n < M := by simpa [W.low, Nat.blt_eq] using e
    rw [← mu n e' h]
    exact .ls (Nat.lt_of_lt_of_le e' hM)
  | _, _, .frz h, _ => .frz h
theorem Reps.cut {M : Nat} (mu : ∀ i, i < M → i < L → μ' i = μ i) (hM : M ≤ L') : ∀ {vs : List V} {ws : List W}, Reps K μ L H vs ws → W.lows M ws = true → Reps K μ' L' H vs ws
  | _, _, .nil, _ => .nil
  | _, _, .cons r rs, e => by
    simp only [W.lows, Bool.and_eq_true] at e
    exact .cons (Rep.cut mu hM r e.1) (Reps.cut mu hM rs e.2)
end
theorem Reps.length : ∀ {vs : List V} {ws : List W}, Reps K μ L H vs ws → vs.length = ws.length
  | _, _, .nil => rfl
  | _, _, .cons _ rs => by simp [Reps.length rs]
theorem Reps.get : ∀ {vs : List V} {ws : List W} {i : Nat} {w : W}, Reps K μ L H vs ws → ws[i]? = some w → ∃ v, vs[i]? = some v ∧ Rep K μ L H v w
  | _, _, _, _, .nil, e => by simp at e
  | _, _, 0, _, .cons r _, e => by simp at e; subst e; exact ⟨_, rfl, r⟩
  | _, _, i + 1, w, .cons _ t, e => by
    obtain ⟨u, h1, h2⟩ := Reps.get (i := i) (w := w) t (by simpa using e)
    exact ⟨u, by simpa using h1, h2⟩
theorem Reps.getV : ∀ {vs : List V} {ws : List W} {i : Nat} {v : V}, Reps K μ L H vs ws → vs[i]? = some v → ∃ w, ws[i]? = some w ∧ Rep K μ L H v w
  | _, _, _, _, .nil, e => by simp at e
  | _, _, 0, _, .cons r _, e => by simp at e; subst e; exact ⟨_, rfl, r⟩
  | _, _, i + 1, w, .cons _ t, e => by
    obtain ⟨u, h1, h2⟩ := Reps.getV (i := i) (v := w) t (by simpa using e)
    exact ⟨u, by simpa using h1, h2⟩
theorem Reps.append : ∀ {vs vs' : List V} {ws ws' : List W}, Reps K μ L H vs ws → Reps K μ L H vs' ws' → Reps K μ L H (vs ++ vs') (ws ++ ws')
  | _, _, _, _, .nil, s => s
  | _, _, _, _, .cons r t, s => .cons r (Reps.append t s)
theorem Reps.take : ∀ {vs : List V} {ws : List W} (n : Nat), Reps K μ L H vs ws → Reps K μ L H (vs.take n) (ws.take n)
  | _, _, 0, _ => .nil
  | _, _, _ + 1, .nil => .nil
  | _, _, n + 1, .cons r t => .cons r (Reps.take n t)
theorem Reps.drop : ∀ {vs : List V} {ws : List W} (n : Nat), Reps K μ L H vs ws → Reps K μ L H (vs.drop n) (ws.drop n)
  | _, _, 0, r => r
  | _, _, _ + 1, .nil => .nil
  | _, _, n + 1, .cons _ t => Reps.drop n t
theorem Reps.set {v : V} {w : W} (r : Rep K μ L H v w) : ∀ {vs : List V} {ws : List W} (i : Nat), Reps K μ L H vs ws → Reps K μ L H (vs.set i v) (ws.set i w)
  | _, _, _, .nil => .nil
  | _, _, 0, .cons _ t => .cons r t
  | _, _, i + 1, .cons q t => .cons q (Reps.set r i t)
theorem Reps.reverse {vs : List V} {ws : List W} (h : Reps K μ L H vs ws) : Reps K μ L H vs.reverse ws.reverse := by
  induction vs generalizing ws with
  | nil => cases h; exact .nil
  | cons v vs ih =>
    cases h with
    | cons r rs =>
      simp only [List.reverse_cons]
      exact (ih rs).append (.cons r .nil)
theorem Reps.ints : ∀ {ns : List Int}, Reps K μ L H (ns.map V.int) (ns.map W.int)
  | [] => .nil
  | n :: ns => .cons (.int n) (Reps.ints (ns := ns))
theorem Reps.ofInts : ∀ {vs : List V} {ns : List Int}, Reps K μ L H vs (ns.map W.int) → vs = ns.map V.int
  | [], [], _ => rfl
  | [], _ :: _, h => by cases h
  | _ :: _, [], h => by cases h
  | v :: vs, n :: ns, h => by
    cases h with
    | cons r rs =>
      cases r
      rw [Reps.ofInts rs]
      rfl
theorem Reps.ofBls : ∀ {vs : List V} {bs : List Bool}, Reps K μ L H vs (bs.map W.bl) → vs = bs.map V.bl
  | [], [], _ => rfl
  | [], _ :: _, h => by cases h
  | _ :: _, [], h => by cases h
  | v :: vs, n :: ns, h => by
    cases h with
    | cons r rs =>
      cases r
      rw [Reps.ofBls rs]
      rfl
end

/-- the store's objects stand at μ -/
def ObR (K : PySem.W.Frag) (μ : Nat → Addr) (L : Nat) (H : Hp) (a : Addr) : Ob → Prop
  | .lst ws => ∃ vs, H a = some (.lst vs) ∧ Reps K μ L H vs ws
structure Sim (K : PySem.W.Frag) (μ : Nat → Addr) (st : Sto) (H : Hp) : Prop where
  at_ : ∀ (i : Nat) (o : Ob), st[i]? = some o → ObR K μ st.length H (μ i) o
  inj : ∀ i j, i < st.length → j < st.length → μ i = μ j → i = j
/-- what comes behind -/
structure Nxt (K : PySem.W.Frag) (μ : Nat → Addr) (L : Nat) (H : Hp) (μ' : Nat → Addr) (L' : Nat) (H' : Hp) : Prop where
  tp : ∀ a xs, Tp K H a xs → Tp K H' a xs
  fz : ∀ a ns, Fz K H a ns → Fz K H' a ns
  mu : ∀ i, i < L → μ' i = μ i
  le : L ≤ L'
  fr : ∀ a o, H a = some o → (∀ i, i < L → a ≠ μ i) → H' a = some o
  ks : ∀ a, H' a = none → H a = none
  nw : ∀ i, L ≤ i → i < L' → H (μ' i) = none
section
variable {K : PySem.W.Frag} {μ μ' μ1 μ2 : Nat → Addr} {L L' L1 L2 : Nat} {H H' H1 H2 : Hp} {st st' : Sto}
theorem Nxt.refl : Nxt K μ L H μ L H := ⟨fun _ _ h => h, fun _ _ h => h, fun _ _ => rfl, Nat.le_refl _, fun _ _ h _ => h, fun _ h => h, fun i h h' => absurd h (Nat.not_le_of_lt h')⟩
theorem Nxt.trans (a : Nxt K μ L H μ1 L1 H1) (b : Nxt K μ1 L1 H1 μ2 L2 H2) : Nxt K μ L H μ2 L2 H2 where
  tp := fun x xs h => b.tp x xs (a.tp x xs h)
  fz := fun x ns h => b.fz x ns (a.fz x ns h)
  mu := fun i h => (b.mu i (Nat.lt_of_lt_of_le h a.le)).trans (a.mu i h)
  le := Nat.le_trans a.le b.le
  fr := fun x o h n => b.fr x o (a.fr x o h n) fun i hi => by
    by_cases hL : i < L
    · rw [a.mu i hL]; exact n i hL
    · intro e
      have := a.nw i (Nat.le_of_not_lt hL) hi
      rw [← e, h] at this; cases this
  ks := fun x h => a.ks x (b.ks x h)
  nw := fun i h h' => by
    by_cases hi : i < L1
    · rw [b.mu i hi]; exact a.nw i h hi
    · exact a.ks _ (b.nw i (Nat.le_of_not_lt hi) h')
theorem Rep.nxt (n : Nxt K μ L H μ' L' H') {v : V} {w : W} (r : Rep K μ L H v w) : Rep K μ' L' H' v w := r.step n.tp n.fz n.mu n.le
theorem Reps.nxt (n : Nxt K μ L H μ' L' H') {v : List V} {w : List W} (r : Reps K μ L H v w) : Reps K μ' L' H' v w := r.step n.tp n.fz n.mu n.le
/-- the part of it that values ask -/
structure Nxw (K : PySem.W.Frag) (μ : Nat → Addr) (L : Nat) (H : Hp) (μ' : Nat → Addr) (L' : Nat) (H' : Hp) : Prop where
  tp : ∀ a xs, Tp K H a xs → Tp K H' a xs
  fz : ∀ a ns, Fz K H a ns → Fz K H' a ns
  mu : ∀ i, i < L → μ' i = μ i
  le : L ≤ L'
theorem Nxt.w (n : Nxt K μ L H μ' L' H') : Nxw K μ L H μ' L' H' := ⟨n.tp, n.fz, n.mu, n.le⟩
theorem Nxw.trans (a : Nxw K μ L H μ1 L1 H1) (b : Nxw K μ1 L1 H1 μ2 L2 H2) : Nxw K μ L H μ2 L2 H2 := ⟨fun x xs h => b.tp x xs (a.tp x xs h), fun x ns h => b.fz x ns (a.fz x ns h), fun i h => (b.mu i (Nat.lt_of_lt_of_le h a.le)).trans (a.mu i h), Nat.le_trans a.le b.le⟩
theorem Rep.nxw (n : Nxw K μ L H μ' L' H') {v : V} {w : W} (r : Rep K μ L H v w) : Rep K μ' L' H' v w := r.step n.tp n.fz n.mu n.le
theorem Reps.nxw (n : Nxw K μ L H μ' L' H') {v : List V} {w : List W} (r : Reps K μ L H v w) : Reps K μ' L' H' v w := r.step n.tp n.fz n.mu n.le
/-- what comes behind, the list at D apart -/
structure NxtD (D : Addr) (K : PySem.W.Frag) (μ : Nat → Addr) (L : Nat) (H : Hp) (μ' : Nat → Addr) (L' : Nat) (H' : Hp) : Prop where
  w : Nxw K μ L H μ' L' H'
  fr : ∀ a o, a ≠ D → H a = some o → (∀ i, i < L → a ≠ μ i) → H' a = some o
  ks : ∀ a, H' a = none → H a = none
  nw : ∀ i, L ≤ i → i < L' → H (μ' i) = none
theorem Nxt.d (n : Nxt K μ L H μ' L' H') (D : Addr) : NxtD D K μ L H μ' L' H' := ⟨n.w, fun a o _ => n.fr a o, n.ks, n.nw⟩
theorem NxtD.trans {D : Addr} (a : NxtD D K μ L H μ1 L1 H1) (b : NxtD D K μ1 L1 H1 μ2 L2 H2) : NxtD D K μ L H μ2 L2 H2 where
  w := a.w.trans b.w
  fr := fun x o hx h n => b.fr x o hx (a.fr x o hx h n) fun i hi => by
    by_cases hL : i < L
    · rw [a.w.mu i hL]; exact n i hL
    · intro e
      have := a.nw i (Nat.le_of_not_lt hL) hi
      rw [← e, h] at this; cases this
  ks := fun x h => a.ks x (b.ks x h)
  nw := fun i h h' => by
    by_cases hi : i < L1
    · rw [b.w.mu i hi]; exact a.nw i h hi
    · exact a.ks _ (b.nw i (Nat.le_of_not_lt hi) h')
/-- .. where D was not there at the start -/
theorem NxtD.nxt {D : Addr} (n : NxtD D K μ L H μ' L' H') (h : H D = none) : Nxt K μ L H μ' L' H' := ⟨n.w.tp, n.w.fz, n.w.mu, n.w.le, fun a o e => n.fr a o (ne_of_none e h) e, n.ks, n.nw⟩
theorem Sim.lstAt (S : Sim K μ st H) {n : Nat} {ws : List W} (e : st[n]? = some (.lst ws)) : ∃ vs, H (μ n) = some (.lst vs) ∧ Reps K μ st.length H vs ws := S.at_ n _ e
theorem lt_of_get {n : Nat} {o : Ob} (e : st[n]? = some o) : n < st.length := (List.getElem?_eq_some_iff.mp e).1
theorem Sim.isL (S : Sim K μ st H) {n : Nat} (h : n < st.length) : ∃ xs, H (μ n) = some (.lst xs) := by
  have e : st[n]? = some st[n] := by simp [h]
  have q := S.at_ n _ e
  cases h0 : st[n] with
  | lst ws => rw [h0] at q; obtain ⟨vs, q, _⟩ := q; exact ⟨vs, q⟩
theorem Tp.new {p : Addr} {o : HO} (h : H p = none) {a : Addr} {xs : List V} (t : Tp K H a xs) : Tp K (upd H p o) a xs := by
  rcases t with t | t
  · exact .inl (by rw [upd_ne (ne_of_none t h)]; exact t)
  · exact .inr t
theorem Fz.new {p : Addr} {o : HO} (h : H p = none) {a : Addr} {ns : List Int} (t : Fz K H a ns) : Fz K (upd H p o) a ns := by
  rcases t with ⟨b, t⟩ | t
  · exact .inl ⟨b, by rw [upd_ne (ne_of_none t h)]; exact t⟩
  · exact .inr t
theorem upd_none {p a : Addr} {o : HO} (h : upd H p o a = none) : H a = none := by
  by_cases e : a = p
  · subst e; rw [upd_same] at h; cases h
  · rw [upd_ne e] at h; exact h
/-- a new object that the store does not hold (a tuple, a thing of the layer's) -/
theorem Nxt.tup {p : Addr} {o : HO} (h : H p = none) : Nxt K μ L H μ L (upd H p o) where
  tp := fun _ _ t => t.new h
  fz := fun _ _ t => t.new h
  mu := fun _ _ => rfl
  le := Nat.le_refl _
  fr := fun a u e _ => by rw [upd_ne (ne_of_none e h)]; exact e
  ks := fun _ e => upd_none e
  nw := fun i h1 h2 => absurd h1 (Nat.not_le_of_lt h2)
theorem ObR.nxt {o : Ob} {i : Nat} (n : Nxt K μ L H μ' L' H') (e : H' (μ i) = H (μ i)) (h : ObR K μ L H (μ i) o) : ObR K μ' L' H' (μ i) o := by
  cases o with
  | lst ws =>
    obtain ⟨vs, h1, h2⟩ := h
    exact ⟨vs, e.trans h1, h2.nxt n⟩
theorem Sim.tup {p : Addr} {o : HO} (S : Sim K μ st H) (h : H p = none) : Sim K μ st (upd H p o) := by
  refine ⟨fun i ob e => ?_, S.inj⟩
  have hne : μ i ≠ p := by
    obtain ⟨xs, q⟩ := S.isL (lt_of_get e)
    exact ne_of_none q h
  exact (S.at_ i ob e).nxt (Nxt.tup h) (upd_ne hne)
/-- a new list at p -/
def muAt (μ : Nat → Addr) (L : Nat) (p : Addr) : Nat → Addr := fun i => if i = L then p else μ i
theorem muAt_lt {p : Addr} {i : Nat} (h : i < L) : muAt μ L p i = μ i := if_neg (Nat.ne_of_lt h)
theorem muAt_eq {p : Addr} : muAt μ L p L = p := if_pos rfl
theorem Nxt.new {p : Addr} {o : HO} (h : H p = none) : Nxt K μ L H (muAt μ L p) (L + 1) (upd H p o) where
  tp := fun _ _ t => t.new h
  fz := fun _ _ t => t.new h
  mu := fun _ hi => muAt_lt hi
  le := Nat.le_succ _
  fr := fun a u e _ => by rw [upd_ne (ne_of_none e h)]; exact e
  ks := fun _ e => upd_none e
  nw := fun i h1 h2 => by
    have : i = L := by omega
    subst this
    rw [muAt_eq]; exact h
theorem Sim.new {p : Addr} {vs : List V} {ws : List W} (S : Sim K μ st H) (h : H p = none) (r : Reps K μ st.length H vs ws) : Sim K (muAt μ st.length p) (st ++ [.lst ws]) (upd H p (.lst vs)) := by
  have N : Nxt K μ st.length H (muAt μ st.length p) (st.length + 1) (upd H p (.lst vs)) := Nxt.new h
  have hl : (st ++ [Ob.lst ws]).length = st.length + 1 := by simp
  have hne : ∀ i, i < st.length → μ i ≠ p := fun i hi => by
    obtain ⟨xs, q⟩ := S.isL hi
    exact ne_of_none q h
  refine ⟨fun i ob e => ?_, fun i j hi hj e => ?_⟩
  · rw [hl]
    by_cases hi : i < st.length
    · rw [List.getElem?_append_left hi] at e
      rw [muAt_lt hi]
      exact (S.at_ i ob e).nxt N (upd_ne (hne i hi))
    · have : i = st.length := by
        have := lt_of_get e
        rw [hl] at this; omega
      subst this
      rw [List.getElem?_append_right (Nat.le_refl _)] at e
      simp at e
      subst e
      rw [muAt_eq]
      exact ⟨vs, upd_same, r.nxt N⟩
  · rw [hl] at hi hj
    by_cases h1 : i < st.length
    · by_cases h2 : j < st.length
      · rw [muAt_lt h1, muAt_lt h2] at e
        exact S.inj i j h1 h2 e
      · have : j = st.length := by omega
        subst this
        rw [muAt_lt h1, muAt_eq] at e
        exact absurd e (hne i h1)
    · have : i = st.length := by omega
      subst this
      by_cases h2 : j < st.length
      · rw [muAt_lt h2, muAt_eq] at e
        exact absurd e.symm (hne j h2)
      · omega
theorem NxtD.put {D : Addr} {vs vs' : List V} (e : H D = some (.lst vs)) : NxtD D K μ L H μ L (upd H D (.lst vs')) where
  w := ⟨fun a xs t => by
    rcases t with t | t
    · refine .inl ?_
      rw [upd_ne]
      · exact t
      · rintro rfl; rw [e] at t; cases t
    · exact .inr t, fun a ns t => by
    rcases t with ⟨o, t⟩ | t
    · refine .inl ⟨o, ?_⟩
      rw [upd_ne]
      · exact t
      · rintro rfl; rw [e] at t; cases t
    · exact .inr t, fun _ _ => rfl, Nat.le_refl _⟩
  fr := fun a o hx h _ => by rw [upd_ne hx]; exact h
  ks := fun a h => upd_none h
  nw := fun i h1 h2 => absurd h1 (Nat.not_le_of_lt h2)
/-- a list that the store does not hold is written -/
theorem Sim.putD {D : Addr} {vs vs' : List V} (S : Sim K μ st H) (e : H D = some (.lst vs)) (hne : ∀ i, i < st.length → μ i ≠ D) : Sim K μ st (upd H D (.lst vs')) := by
  refine ⟨fun i ob q => ?_, S.inj⟩
  have := S.at_ i ob q
  have hD := hne i (lt_of_get q)
  cases ob with
  | lst ws =>
    obtain ⟨us, q1, q2⟩ := this
    exact ⟨us, by rw [upd_ne hD]; exact q1, q2.nxw (NxtD.put (D := D) (μ := μ) (L := st.length) e).w⟩
/-- an object of the store written -/
theorem Nxt.put {n : Nat} {vs vs' : List V} (hn : n < L) (e : H (μ n) = some (.lst vs)) : Nxt K μ L H μ L (upd H (μ n) (.lst vs')) where
  tp := fun a xs t => by
    rcases t with t | t
    · refine .inl ?_
      rw [upd_ne]
      · exact t
      · rintro rfl; rw [e] at t; cases t
    · exact .inr t
  fz := fun a ns t => by
    rcases t with ⟨o, t⟩ | t
    · refine .inl ⟨o, ?_⟩
      rw [upd_ne]
      · exact t
      · rintro rfl; rw [e] at t; cases t
    · exact .inr t
  mu := fun _ _ => rfl
  le := Nat.le_refl _
  fr := fun a o h q => by rw [upd_ne (q n hn)]; exact h
  ks := fun a h => upd_none h
  nw := fun i h1 h2 => absurd h1 (Nat.not_le_of_lt h2)
theorem Sim.put {n : Nat} {ws ws' : List W} {vs vs' : List V} (S : Sim K μ st H) (e : st[n]? = some (.lst ws)) (h : H (μ n) = some (.lst vs)) (r : Reps K μ st.length H vs' ws') : Sim K μ (st.set n (.lst ws')) (upd H (μ n) (.lst vs')) := by
  have hn := lt_of_get e
  have N : Nxt K μ st.length H μ st.length (upd H (μ n) (.lst vs')) := Nxt.put hn h
  refine ⟨fun i ob q => ?_, fun i j hi hj q => ?_⟩
  · rw [List.length_set]
    by_cases hi : n = i
    · subst hi
      rw [List.getElem?_set_self hn] at q
      cases q
      exact ⟨vs', upd_same, r.nxt N⟩
    · rw [List.getElem?_set_ne hi] at q
      refine (S.at_ i ob q).nxt N (upd_ne fun z => hi ?_)
      exact (S.inj i n (lt_of_get q) hn z).symm
  · rw [List.length_set] at hi hj
    exact S.inj i j hi hj q
end

/-- the slots -/
structure EnvR (K : PySem.W.Frag) (μ : Nat → Addr) (L : Nat) (H : Hp) (env : Env') (σ : L2.St) : Prop where
  len : env.length = σ.length
  at_ : ∀ (i : Nat) (w : W), env[i]? = some (some w) → ∃ v, σ[i]? = some (some v) ∧ Rep K μ L H v w
section
variable {K : PySem.W.Frag} {μ μ' : Nat → Addr} {L L' : Nat} {H H' : Hp} {env : Env'} {σ : L2.St}
theorem EnvR.nxt (n : Nxt K μ L H μ' L' H') (e : EnvR K μ L H env σ) : EnvR K μ' L' H' env σ := ⟨e.len, fun i w h => let ⟨v, a, b⟩ := e.at_ i w h; ⟨v, a, b.nxt n⟩⟩
theorem EnvR.nxw (n : Nxw K μ L H μ' L' H') (e : EnvR K μ L H env σ) : EnvR K μ' L' H' env σ := ⟨e.len, fun i w h => let ⟨v, a, b⟩ := e.at_ i w h; ⟨v, a, b.nxw n⟩⟩
theorem EnvR.set {v : V} {w : W} (e : EnvR K μ L H env σ) (r : Rep K μ L H v w) (i : Nat) : EnvR K μ L H (env.set i (some w)) (σ.set i (some v)) := by
  refine ⟨by simp [e.len], fun j u h => ?_⟩
  by_cases hj : i = j
  · subst hj
    by_cases hi : i < env.length
    · rw [List.getElem?_set_self hi] at h
      cases h
      exact ⟨v, List.getElem?_set_self (by rw [← e.len]; exact hi), r⟩
    · rw [List.getElem?_eq_none (by simpa using hi)] at h; cases h
  · rw [List.getElem?_set_ne hj] at h
    obtain ⟨x, a, b⟩ := e.at_ j u h
    exact ⟨x, by rw [List.getElem?_set_ne hj]; exact a, b⟩
theorem EnvR.weak {env' : Env'} (e : EnvR K μ L H env σ) (hl : env'.length = env.length) (h : ∀ (i : Nat) (w : W), env'[i]? = some (some w) → env[i]? = some (some w)) : EnvR K μ L H env' σ :=
  ⟨hl.trans e.len, fun i w q => e.at_ i w (h i w q)⟩
end
end Rx

/-! RxB: readings of mirrors; expressions, operators, tests. -/
namespace Rx
open PySem PySem.Spec PyProof.Rows L2

/-! ### readings -/
/-- what a mirror's answer (a, st') makes of what is wanted -/
def KE (K : PySem.W.Frag) (μ : Nat → Addr) (L : Nat) (H : Hp) (w : W) (st' : Sto) (Q : VK) : Prop :=
  ∀ μ' H' v, Nxt K μ L H μ' st'.length H' → Sim K μ' st' H' → Rep K μ' st'.length H' v w → Q v H'
def KT (K : PySem.W.Frag) (μ : Nat → Addr) (L : Nat) (H : Hp) (b : Bool) (st' : Sto) (Q : Bool → Hp → Prop) : Prop :=
  ∀ μ' H', Nxt K μ L H μ' st'.length H' → Sim K μ' st' H' → Q b H'
def KA (K : PySem.W.Frag) (μ : Nat → Addr) (L : Nat) (H : Hp) (ws : List W) (st' : Sto) (Q : List V → Hp → Prop) : Prop :=
  ∀ μ' H' vs, Nxt K μ L H μ' st'.length H' → Sim K μ' st' H' → Reps K μ' st'.length H' vs ws → Q vs H'

def lE (K : PySem.W.Frag) (m : EX) : TE := fun σ H Q => ∃ μ env st w st', Sim K μ st H ∧ EnvR K μ st.length H env σ ∧ m env st = .ok w st' ∧ KE K μ st.length H w st' Q
def lT (K : PySem.W.Frag) (m : TX) : TT := fun σ H Q => ∃ μ env st b st', Sim K μ st H ∧ EnvR K μ st.length H env σ ∧ m env st = .ok b st' ∧ KT K μ st.length H b st' Q
def lA (K : PySem.W.Frag) (m : AX) : TA := fun σ H Q => ∃ μ env st ws st', Sim K μ st H ∧ EnvR K μ st.length H env σ ∧ m env st = .ok ws st' ∧ KA K μ st.length H ws st' Q
/-- two values, a list of values -/
def lO (K : PySem.W.Frag) (f : W → W → Sto → R W) : R2 := fun x y H Q => ∃ μ st a b w st', Sim K μ st H ∧ Rep K μ st.length H x a ∧ Rep K μ st.length H y b ∧ f a b st = .ok w st' ∧ KE K μ st.length H w st' Q
def lU (K : PySem.W.Frag) (f : W → Sto → R W) : V → Hp → VK → Prop := fun x H Q => ∃ μ st a w st', Sim K μ st H ∧ Rep K μ st.length H x a ∧ f a st = .ok w st' ∧ KE K μ st.length H w st' Q
def lC (K : PySem.W.Frag) (f : FX) : List V → Hp → VK → Prop := fun vs H Q => ∃ μ st ws w st', Sim K μ st H ∧ Reps K μ st.length H vs ws ∧ f ws st = .ok w st' ∧ KE K μ st.length H w st' Q
def lM (K : PySem.W.Frag) (f : W → FX) : V → List V → Hp → VK → Prop := fun x vs H Q => ∃ μ st a ws w st', Sim K μ st H ∧ Rep K μ st.length H x a ∧ Reps K μ st.length H vs ws ∧ f a ws st = .ok w st' ∧ KE K μ st.length H w st' Q

section
variable {K : PySem.W.Frag} {μ μ1 : Nat → Addr} {L L1 : Nat} {H H1 : Hp} {w : W} {st' : Sto} {Q : VK}
theorem KE.mono (n : Nxt K μ L H μ1 L1 H1) (k : KE K μ L H w st' Q) : KE K μ1 L1 H1 w st' Q := fun μ' H' v N S r => k μ' H' v (n.trans N) S r
theorem KT.mono {b : Bool} {Q : Bool → Hp → Prop} (n : Nxt K μ L H μ1 L1 H1) (k : KT K μ L H b st' Q) : KT K μ1 L1 H1 b st' Q := fun μ' H' N S => k μ' H' (n.trans N) S
theorem KA.mono {ws : List W} {Q : List V → Hp → Prop} (n : Nxt K μ L H μ1 L1 H1) (k : KA K μ L H ws st' Q) : KA K μ1 L1 H1 ws st' Q := fun μ' H' vs N S r => k μ' H' vs (n.trans N) S r
/-- the value is given at once -/
theorem KE.here {st : Sto} {v : V} (k : KE K μ st.length H w st Q) (S : Sim K μ st H) (r : Rep K μ st.length H v w) : Q v H := k μ H v Nxt.refl S r
/-- .. a new tuple -/
theorem KE.tup {st : Sto} {vs : List V} {ws : List W} {p : Addr} (k : KE K μ st.length H (.tup ws) st Q) (S : Sim K μ st H) (r : Reps K μ st.length H vs ws) (h : H p = none) : Q (.ref p) (upd H p (.tup vs)) :=
  k μ _ _ (Nxt.tup h) (S.tup h) (.tup (.inl upd_same) (r.nxt (Nxt.tup h)))
/-- .. a new list -/
theorem KE.new {st : Sto} {vs : List V} {ws : List W} {p : Addr} (k : KE K μ st.length H (.ls st.length) (st ++ [.lst ws]) Q) (S : Sim K μ st H) (r : Reps K μ st.length H vs ws) (h : H p = none) : Q (.ref p) (upd H p (.lst vs)) := by
  have hl : (st ++ [Ob.lst ws]).length = st.length + 1 := by simp
  have N : Nxt K μ st.length H (muAt μ st.length p) (st ++ [Ob.lst ws]).length (upd H p (.lst vs)) := by rw [hl]; exact Nxt.new h
  have q : Rep K (muAt μ st.length p) (st ++ [Ob.lst ws]).length (upd H p (.lst vs)) (.ref (muAt μ st.length p st.length)) (.ls st.length) := .ls (by rw [hl]; exact Nat.lt_succ_self _)
  rw [muAt_eq] at q
  exact k _ _ _ N (S.new h r) q
/-- .. a list of the store changed -/
theorem KE.put {st : Sto} {v : V} {vs vs' : List V} {ws ws' : List W} {n : Nat} (k : KE K μ st.length H w (st.set n (.lst ws')) Q) (S : Sim K μ st H) (e : st[n]? = some (.lst ws)) (h : H (μ n) = some (.lst vs)) (r : Reps K μ st.length H vs' ws')
    (rv : Rep K μ st.length (upd H (μ n) (.lst vs')) v w) : Q v (upd H (μ n) (.lst vs')) := by
  have N : Nxt K μ st.length H μ (st.set n (.lst ws')).length (upd H (μ n) (.lst vs')) := by rw [List.length_set]; exact Nxt.put (lt_of_get e) h
  exact k _ _ _ N (S.put e h r) (by rw [List.length_set]; exact rv)
end

/-! ### the context of a body -/
structure In (X : Cx) (N : List Str) (sc : Scope) : Prop where
  n : X.N = N
  s : X.env.scope = sc
  calm : X.calm = true
  nox : X.xe = fun _ _ => False
  nd : N.Nodup
  room : Room 0 X.A
structure InF (X : Cx) (N : List Str) (sc : Scope) : Prop extends In X N sc where
  cel : ∀ x, sc.names.lookup x = some .cell → X.fn x = true
/-- a name that may be stored -/
def Lo (X : Cx) (i : Nat) (x : Str) : Prop := X.N[i]? = some x ∧ L2.Loc X.env.scope x ∧ (X.fn x = true ∨ X.env.scope.names.lookup x = some .local) ∧ X.N.Nodup
def nmOk (N : List Str) (sc : Scope) (i : Nat) (x : Str) : Bool := decide (N[i]? = some x) && (match sc.names.lookup x with
  | some .local => true | some .cell => true | some .free => true | _ => false) && !(x == ("__debug__" : Str)) && !(x == ("__classdict__" : Str))
def glB (sc : Scope) (x : Str) : Bool := match sc.names.lookup x with
  | some .globalImplicit => true
  | _ => false
def locOk (N : List Str) (sc : Scope) (i : Nat) (x : Str) : Bool := decide (N[i]? = some x) && (match sc.names.lookup x with
  | some .local => true | some .cell => true | _ => false)
section
variable {X : Cx} {N : List Str} {sc : Scope}
theorem In.nm (h : In X N sc) {i : Nat} {x : Str} (e : nmOk N sc i x = true) : X.N[i]? = some x ∧ Vis X.env.scope x ∧ (x == ("__debug__" : Str)) = false ∧ (x == ("__classdict__" : Str)) = false := by
  unfold nmOk at e
  simp only [Bool.and_eq_true, decide_eq_true_eq, Bool.not_eq_true'] at e
  obtain ⟨⟨⟨e1, e2⟩, e3⟩, e4⟩ := e
  refine ⟨by rw [h.n]; exact e1, ?_, e3, e4⟩
  rw [h.s]
  split at e2
  · exact .inl (by assumption)
  · exact .inr (.inl (by assumption))
  · exact .inr (.inr (by assumption))
  · cases e2
theorem InF.lo (h : InF X N sc) {i : Nat} {x : Str} (e : locOk N sc i x = true) : Lo X i x := by
  unfold locOk at e
  simp only [Bool.and_eq_true, decide_eq_true_eq] at e
  obtain ⟨e1, e2⟩ := e
  refine ⟨by rw [h.n]; exact e1, ?_⟩
  have hnd : X.N.Nodup := by rw [h.n]; exact h.nd
  unfold L2.Loc
  rw [h.s]
  split at e2
  · exact ⟨.inl (by assumption), .inr (by assumption), hnd⟩
  · exact ⟨.inr (by assumption), .inl (h.cel _ (by assumption)), hnd⟩
  · cases e2
/-- in a comprehension's block -/
theorem In.blk (h : In X N sc) {s : Shared} {H : Hp} {scope : Scope} {C : Addr} {cl : List (Str × Addr)} {fp : List Addr} : In (X.blk s H scope (compEnvC scope cl C X.env) fp) N (relS scope sc) :=
  ⟨h.n, by rw [← h.s]; rfl, h.calm, rfl, h.nd, h.room⟩
def ownOk (N : List Str) (scope : Scope) (i : Nat) (x : Str) : Bool := decide (N[i]? = some x) && (match scope.names.lookup x with
  | some .local => true | some .cell => true | _ => false)
theorem In.loB (h : In X N sc) {s : Shared} {H : Hp} {scope : Scope} {C : Addr} {cl : List (Str × Addr)} {fp : List Addr} {i : Nat} {x : Str} (e : ownOk N scope i x = true) : Lo (X.blk s H scope (compEnvC scope cl C X.env) fp) i x := by
  unfold ownOk at e
  simp only [Bool.and_eq_true, decide_eq_true_eq] at e
  obtain ⟨e1, e2⟩ := e
  have hnd : X.N.Nodup := by rw [h.n]; exact h.nd
  refine ⟨by show X.N[i]? = some x; rw [h.n]; exact e1, ?_⟩
  split at e2
  · rename_i q
    have q2 := lookup_relS_keep (sc := X.env.scope) (by decide) q
    exact ⟨.inl q2, .inr q2, hnd⟩
  · rename_i q
    have q2 := lookup_relS_keep (sc := X.env.scope) (by decide) q
    exact ⟨.inr q2, .inl (by show (scope.names.lookup x == some NameKind.cell) = true; rw [q]; rfl), hnd⟩
  · cases e2
theorem In.gl (h : In X N sc) {x : Str} (e : glB sc x = true) : Gl X x := by
  show X.env.scope.names.lookup x = some .globalImplicit
  rw [h.s]
  unfold glB at e
  split at e
  · assumption
  · cases e
theorem In.passes (h : In X N sc) : PassesOwn (model X.prog X.w) X.A X.env X.xe := by
  rw [h.nox]
  exact PassesOwn.never
theorem In.units (h : In X N sc) : X.A.units + 65 < cLine := by have := h.room.un; omega
end

abbrev RE (X : Cx) (e : Expr) (m : EX) : Prop := PE X e (lE X.K m)
abbrev RT (X : Cx) (e : Expr) (m : TX) : Prop := PT X e (lT X.K m)
abbrev RW' (X : Cx) (e : Expr) (m : TX) : Prop := PW X e (lT X.K m)
abbrev RA (X : Cx) (es : List Expr) (m : AX) : Prop := PA X es (lA X.K m)

section
variable {X : Cx} {e a b c : Expr} {t t' : TE} {pos : Pos}
theorem pe_imp (h : PE X e t) (i : ∀ σ H Q, t' σ H Q → t σ H Q) : PE X e t' := ⟨fun pins s σ H Q I q => h.run pins s σ H Q I (i σ H Q q)⟩
theorem pt_imp {t t' : TT} (h : PT X e t) (i : ∀ σ H Q, t' σ H Q → t σ H Q) : PT X e t' := ⟨fun pins s σ H Q I q => h.run pins s σ H Q I (i σ H Q q)⟩
theorem pw_imp {t t' : TT} (h : PW X e t) (i : ∀ σ H Q, t' σ H Q → t σ H Q) : PW X e t' := ⟨fun wh pins s σ H Q I q => h.run wh pins s σ H Q I (i σ H Q q)⟩
theorem pa_imp {es : List Expr} {t t' : TA} (h : PA X es t) (i : ∀ σ H Q, t' σ H Q → t σ H Q) : PA X es t' := ⟨fun pos pins s σ H Q I q => h.run pos pins s σ H Q I (i σ H Q q)⟩
theorem op_imp {f : Value → Value → Sem Value} {r r' : R2} (h : OpR X f r) (i : ∀ x y H Q, r' x y H Q → r x y H Q) : OpR X f r' := fun pins s σ H x y v u Q I rx ry q => h pins s σ H x y v u Q I rx ry (i x y H Q q)
theorem un_imp {f : Value → Sem Value} {r r' : V → Hp → VK → Prop} (h : UnR X f r) (i : ∀ x H Q, r' x H Q → r x H Q) : UnR X f r' := fun pins s σ H x v Q I rx q => h pins s σ H x v Q I rx (i x H Q q)
theorem call_imp {f : Value} {r r' : List V → Hp → VK → Prop} (h : CallR X f r) (i : ∀ x H Q, r' x H Q → r x H Q) : CallR X f r' := fun pins s σ H vs us Q I rx q => h pins s σ H vs us Q I rx (i vs H Q q)

/-! ### constants, names -/
def cst (w : W) : EX := fun _ st => .ok w st
theorem re_cst {w : W} {v : V} (h : PE X e (tC v)) (hr : ∀ (μ : Nat → Addr) (L : Nat) (H : Hp), Rep X.K μ L H v w) : RE X e (cst w) := pe_imp h fun σ H Q ⟨μ, env, st, w', st', S, E, h, k⟩ => by
  cases h
  exact k.here S (hr _ _ _)
theorem re_int {i : Int} {j pos} : RE X (.Constant (.int i) j pos) (cst (.int i)) := re_cst pe_int fun _ _ _ => .int _
theorem re_bl {i : Bool} {j pos} : RE X (.Constant (.bool i) j pos) (cst (.bl i)) := re_cst pe_bl fun _ _ _ => .bl _
theorem re_non {j pos} : RE X (.Constant .none j pos) (cst .non) := re_cst pe_non fun _ _ _ => .non
theorem re_str {i : Str} {j pos} : RE X (.Constant (.str i) j pos) (cst (.str i)) := re_cst pe_str fun _ _ _ => .str _
def evar (i : Nat) : EX := fun env st => match env[i]? with
  | some (some w) => .ok w st
  | _ => .err
theorem re_var {N : List Str} {sc : Scope} (hX : In X N sc) {i : Nat} {x : Str} (h : nmOk N sc i x = true) : RE X (.Name x pos) (evar i) := by
  obtain ⟨h1, h2, h3, h4⟩ := hX.nm h
  refine pe_imp (pe_var (i := i) h1 h2 h3 h4) fun σ H Q ⟨μ, env, st, w, st', S, E, h, k⟩ => ?_
  unfold evar at h
  split at h
  · cases h
    obtain ⟨v, e1, e2⟩ := E.at_ _ _ (by assumption)
    exact ⟨v, e1, k.here S e2⟩
  · cases h
/-- a type's name as a value -/
theorem re_type {N : List Str} {sc : Scope} (hX : In X N sc) {x : Str} {n : String} (hg : glB sc x = true) (hm : X.mg x = none) (hv : bootBuiltins x = some (.type n)) (hn : x ≠ "__name__" := by decide) (hd : (x == ("__debug__" : Str)) = false := by decide) :
    RE X (.Name x pos) (cst (.ty n)) := re_cst (pe_bltn (v := .ty n) (hX.gl hg) hm hv rfl hn hd) fun _ _ _ => .ty _
/-- a module's constant -/
theorem re_glob {N : List Str} {sc : Scope} (hX : In X N sc) {x : Str} {u : Value} {v : V} {w : W} (hg : glB sc x = true) (hm : X.mg x = some u) (r : RelV v u) (hr : ∀ (μ : Nat → Addr) (L : Nat) (H : Hp), Rep X.K μ L H v w) (hd : (x == ("__debug__" : Str)) = false := by decide) :
    RE X (.Name x pos) (cst w) := re_cst (pe_glob (hX.gl hg) hm r hd) hr

/-! ### operators -/
def eBin (f : W → W → Sto → R W) (ma mb : EX) : EX := fun env st => (ma env st).bind fun x s1 => (mb env s1).bind fun y s2 => f x y s2
def eUn (f : W → Sto → R W) (ma : EX) : EX := fun env st => (ma env st).bind fun x s1 => f x s1
theorem bin_run {f : W → W → Sto → R W} {ma mb : EX} {r : R2} {σ : L2.St} {H : Hp} {Q : VK} (hr : ∀ x y H Q, lO X.K f x y H Q → r x y H Q) (h : lE X.K (eBin f ma mb) σ H Q) :
    lE X.K ma σ H fun x H1 => lE X.K mb σ H1 fun y H2 => r x y H2 Q := by
  obtain ⟨μ, env, st, w, st', S, E, h, k⟩ := h
  obtain ⟨a', s1, h1, h2⟩ := R.bind_ok h
  obtain ⟨b', s2, h3, h4⟩ := R.bind_ok h2
  exact ⟨μ, env, st, a', s1, S, E, h1, fun μ1 H1 v N1 S1 r1 => ⟨μ1, env, s1, b', s2, S1, E.nxt N1, h3, fun μ2 H2 u N2 S2 r2 =>
    hr _ _ _ _ ⟨μ2, s2, a', b', w, st', S2, r1.nxt N2, r2, h4, k.mono (N1.trans N2)⟩⟩⟩
theorem re_op {op : Operator} {f : W → W → Sto → R W} {ma mb : EX} (ho : OpR X (binaryOp op) (lO X.K f)) (ha : RE X a ma) (hb : RE X b mb) : RE X (.BinOp a op b pos) (eBin f ma mb) :=
  pe_imp (pe_op ho ha hb) fun σ H Q h => bin_run (fun _ _ _ _ q => q) h
theorem re_un {op : UnaryOp} {f : W → Sto → R W} {ma : EX} (ho : UnR X (unaryOp op) (lU X.K f)) (ha : RE X a ma) : RE X (.UnaryOp op a pos) (eUn f ma) :=
  pe_imp (pe_un ho ha) fun σ H Q ⟨μ, env, st, w, st', S, E, h, k⟩ => by
    obtain ⟨a', s1, h1, h2⟩ := R.bind_ok h
    exact ⟨μ, env, st, a', s1, S, E, h1, fun μ1 H1 v N1 S1 r1 => ⟨μ1, s1, a', w, st', S1, r1, h2, k.mono N1⟩⟩
theorem re_cmp {op : CmpOp} {f : W → W → Sto → R W} {ma mb : EX} (ho : OpR X (compareOp op) (lO X.K f)) (ha : RE X a ma) (hb : RE X b mb) (hm : behindInMarks op b = false) : RE X (.Compare a [op] [b] pos) (eBin f ma mb) :=
  pe_imp (pe_cmpR ho ha hb hm) fun σ H Q h => bin_run (fun _ _ _ _ q => q) h
/-- a value that is a truth value, as a test -/
def tBl (m : EX) : TX := fun env st => (m env st).bind fun x s1 => match x with
  | .bl b => .ok b s1
  | _ => .err
theorem tBl_run {m : EX} {σ : L2.St} {H : Hp} {Q : Bool → Hp → Prop} (h : lT X.K (tBl m) σ H Q) : lE X.K m σ H fun x H1 => ∃ k, x = .bl k ∧ Q k H1 := by
  obtain ⟨μ, env, st, b, st', S, E, h, k⟩ := h
  obtain ⟨x, s1, h1, h2⟩ := R.bind_ok h
  refine ⟨μ, env, st, x, s1, S, E, h1, fun μ1 H1 v N1 S1 r1 => ?_⟩
  cases x <;> simp only [] at h2 <;> try cases h2
  cases r1
  exact ⟨_, rfl, k _ _ N1 S1⟩
theorem rt_cmp {op : CmpOp} {f : W → W → Sto → R W} {ma mb : EX} (ho : OpR X (compareOp op) (lO X.K f)) (ha : RE X a ma) (hb : RE X b mb) (hm : behindInMarks op b = false) : RT X (.Compare a [op] [b] pos) (tBl (eBin f ma mb)) :=
  pt_imp (pt_cmpR ho ha hb hm) fun σ H Q h => bin_run (fun _ _ _ _ q => q) (tBl_run h)
/-- a value that is a truth value by its kind -/
theorem rt_bl {m : EX} (h : RE X e m) (he : ∀ whole, isTrue e X.env whole = (do let v ← whole; standAt e.pos; holding [v] (truthy v)) := by intro _; rfl) : RT X e (tBl m) :=
  pt_imp (pt_val h he) fun σ H Q h => tBl_run h
/-- a < b < c -/
def eChain (f g : W → W → Sto → R W) (ma mb mc : EX) : EX := fun env st => (ma env st).bind fun x s1 => (mb env s1).bind fun y s2 => (f x y s2).bind fun z s3 => match z with
  | .bl true => (mc env s3).bind fun u s4 => g y u s4
  | .bl false => .ok (.bl false) s3
  | _ => .err
theorem chain_run {f g : W → W → Sto → R W} {ma mb mc : EX} {σ : L2.St} {H : Hp} {Q : VK} (h : lE X.K (eChain f g ma mb mc) σ H Q) : tChain (lO X.K f) (lO X.K g) (lE X.K ma) (lE X.K mb) (lE X.K mc) σ H Q := by
  obtain ⟨μ, env, st, w, st', S, E, h, k⟩ := h
  obtain ⟨a', s1, h1, h2⟩ := R.bind_ok h
  obtain ⟨b', s2, h3, h4⟩ := R.bind_ok h2
  obtain ⟨z, s3, h5, h6⟩ := R.bind_ok h4
  refine ⟨μ, env, st, a', s1, S, E, h1, fun μ1 H1 v N1 S1 r1 => ⟨μ1, env, s1, b', s2, S1, E.nxt N1, h3, fun μ2 H2 u N2 S2 r2 =>
    ⟨μ2, s2, a', b', z, s3, S2, r1.nxt N2, r2, h5, fun μ3 H3 d N3 S3 r3 => ?_⟩⟩⟩
  have hz : ∃ bb, z = .bl bb := by
    cases z with
    | bl bb => exact ⟨bb, rfl⟩
    | _ => cases h6
  obtain ⟨bb, rfl⟩ := hz
  cases r3
  refine ⟨bb, rfl, ?_⟩
  cases bb with
  | true =>
    simp only [if_true]
    obtain ⟨u', s4, h7, h8⟩ := R.bind_ok h6
    exact ⟨μ3, env, s3, u', s4, S3, ((E.nxt N1).nxt N2).nxt N3, h7, fun μ4 H4 q N4 S4 r4 => ⟨μ4, s4, b', u', w, st', S4, (r2.nxt N3).nxt N4, r4, h8, k.mono (((N1.trans N2).trans N3).trans N4)⟩⟩
  | false =>
    simp only [Bool.false_eq_true, if_false]
    cases h6
    exact k _ _ _ ((N1.trans N2).trans N3) S3 (.bl _)
theorem re_chain {op op' : CmpOp} {f g : W → W → Sto → R W} {ma mb mc : EX} (ho : OpR X (compareOp op) (lO X.K f)) (ho' : OpR X (compareOp op') (lO X.K g)) (ha : RE X a ma) (hb : RE X b mb) (hc : RE X c mc)
    (hm : lastMarks [op, op'] [b, c] = false := by with_unfolding_all rfl) : RE X (.Compare a [op, op'] [b, c] pos) (eChain f g ma mb mc) :=
  pe_imp (pe_chain ho ho' ha hb hc hm) fun σ H Q h => chain_run h
theorem rt_chain {op op' : CmpOp} {f g : W → W → Sto → R W} {ma mb mc : EX} (ho : OpR X (compareOp op) (lO X.K f)) (ho' : OpR X (compareOp op') (lO X.K g)) (ha : RE X a ma) (hb : RE X b mb) (hc : RE X c mc)
    (hm : lastMarks [op, op'] [b, c] = false := by with_unfolding_all rfl) : RT X (.Compare a [op, op'] [b, c] pos) (tBl (eChain f g ma mb mc)) :=
  pt_imp (pt_chain ho ho' ha hb hc hm) fun σ H Q h => chain_run (tBl_run h)

/-! ### truth -/
/-- a value's truth -/
def tru (st : Sto) : W → Option Bool
  | .non => some false
  | .bl b => some b
  | .int i => some (i != 0)
  | .str y => if y.length ≤ 100000 then some ((y.length : Int) != 0) else none
  | .tup xs => some (!xs.isEmpty)
  | .ls n => match st[n]? with
    | some (.lst xs) => some (!xs.isEmpty)
    | _ => none
  | .frz ns => some (!ns.isEmpty)
  | .ty _ => none
theorem line_of {n : Nat} (h : n ≤ 100000) : n ≤ sizeLine := Nat.le_trans h (by decide)
theorem line_lt {n : Nat} (h : n < 100000) : n < sizeLine := Nat.lt_of_lt_of_le h (by decide)
theorem Reps.isEmpty {K : PySem.W.Frag} {μ : Nat → Addr} {L : Nat} {H : Hp} {vs : List V} {ws : List W} (r : Reps K μ L H vs ws) : vs.isEmpty = ws.isEmpty := by
  cases r <;> rfl
theorem tru_ok' {K : PySem.W.Frag} {μ : Nat → Addr} {H : Hp} {st : Sto} {v : V} {w : W} {k : Bool} (S : Sim K μ st H) (r : Rep K μ st.length H v w) (h : tru st w = some k) : TruV K v H k := by
  cases r with
  | non => cases h; rfl
  | bl b => cases h; rfl
  | int i => cases h; rfl
  | str y =>
    unfold tru at h
    simp only [] at h
    split at h
    · cases h; exact ⟨line_of (by assumption), rfl⟩
    · cases h
  | ty n => cases h
  | tup t rs =>
    cases h
    exact .inr (.inl ⟨_, t.sq, by rw [rs.isEmpty]⟩)
  | ls hn =>
    unfold tru at h
    simp only [] at h
    split at h
    · cases h
      obtain ⟨vs, h1, h2⟩ := S.lstAt (by assumption)
      exact .inl ⟨vs, .inl (.inl h1), by rw [h2.isEmpty]⟩
    · cases h
  | frz f =>
    cases h
    exact .inl ⟨_, f.sq, by simp⟩
def truR (x : W) (s1 : Sto) : R Bool := match tru s1 x with
  | some b => .ok b s1
  | none => .err
theorem truR_ok {x : W} {s1 s2 : Sto} {b : Bool} (h : truR x s1 = .ok b s2) : tru s1 x = some b ∧ s2 = s1 := by
  unfold truR at h
  split at h
  · cases h; exact ⟨by assumption, rfl⟩
  · cases h
def tTru (m : EX) : TX := fun env st => (m env st).bind truR
theorem rt_tru {m : EX} (h : RE X e m) (he : ∀ whole, isTrue e X.env whole = (do let v ← whole; standAt e.pos; holding [v] (truthy v)) := by intro _; rfl) : RT X e (tTru m) :=
  pt_imp (pt_truth h he) fun σ H Q ⟨μ, env, st, b, st', S, E, h, k⟩ => by
    obtain ⟨x, s1, h1, h2⟩ := R.bind_ok h
    obtain ⟨h3, rfl⟩ := truR_ok h2
    exact ⟨μ, env, st, x, _, S, E, h1, fun μ1 H1 v N1 S1 r1 => ⟨b, tru_ok' S1 r1 h3, k _ _ N1 S1⟩⟩
def tNotM (m : TX) : TX := fun env st => (m env st).bind fun b s1 => .ok (!b) s1
theorem rt_not {m : TX} (h : RT X a m) : RT X (.UnaryOp .Not a pos) (tNotM m) := pt_imp (pt_not h) fun σ H Q ⟨μ, env, st, b, st', S, E, h, k⟩ => by
  obtain ⟨x, s1, h1, h2⟩ := R.bind_ok h
  cases h2
  exact ⟨μ, env, st, x, _, S, E, h1, fun μ1 H1 N1 S1 => k _ _ N1 S1⟩
def tAndM (m n : TX) : TX := fun env st => (m env st).bind fun b s1 => if b = true then n env s1 else .ok false s1
def tOrM (m n : TX) : TX := fun env st => (m env st).bind fun b s1 => if b = true then .ok true s1 else n env s1
variable {rest : List Expr}
theorem rw_and1 {m : TX} (ha : RT X a m) : RW' X (.BoolOp .And [a] pos) m := pw_and1 ha
theorem rw_or1 {m : TX} (ha : RT X a m) : RW' X (.BoolOp .Or [a] pos) m := pw_or1 ha
theorem rw_and {m n : TX} (ha : RT X a m) (hb : RW' X (.BoolOp .And (b :: rest) pos) n) : RW' X (.BoolOp .And (a :: b :: rest) pos) (tAndM m n) :=
  pw_imp (pw_and ha hb) fun σ H Q ⟨μ, env, st, bb, st', S, E, h, k⟩ => by
    obtain ⟨x, s1, h1, h2⟩ := R.bind_ok h
    refine ⟨μ, env, st, x, s1, S, E, h1, fun μ1 H1 N1 S1 => ?_⟩
    cases x with
    | true =>
      simp only [if_true] at h2 ⊢
      exact ⟨μ1, env, s1, bb, st', S1, E.nxt N1, h2, k.mono N1⟩
    | false =>
      simp only [Bool.false_eq_true, if_false] at h2 ⊢
      cases h2
      exact k _ _ N1 S1
theorem rw_or {m n : TX} (ha : RT X a m) (hb : RW' X (.BoolOp .Or (b :: rest) pos) n) : RW' X (.BoolOp .Or (a :: b :: rest) pos) (tOrM m n) :=
  pw_imp (pw_or ha hb) fun σ H Q ⟨μ, env, st, bb, st', S, E, h, k⟩ => by
    obtain ⟨x, s1, h1, h2⟩ := R.bind_ok h
    refine ⟨μ, env, st, x, s1, S, E, h1, fun μ1 H1 N1 S1 => ?_⟩
    cases x with
    | false =>
      simp only [Bool.false_eq_true, if_false] at h2 ⊢
      exact ⟨μ1, env, s1, bb, st', S1, E.nxt N1, h2, k.mono N1⟩
    | true =>
      simp only [if_true] at h2 ⊢
      cases h2
      exact k _ _ N1 S1
/-- .. as values -/
def eAnd (m n : EX) : EX := fun env st => (m env st).bind fun x s1 => (truR x s1).bind fun b s2 => if b = true then n env s2 else .ok x s2
def eOr (m n : EX) : EX := fun env st => (m env st).bind fun x s1 => (truR x s1).bind fun b s2 => if b = true then .ok x s2 else n env s2
def eNot (m : EX) : EX := fun env st => (m env st).bind fun x s1 => (truR x s1).bind fun b s2 => .ok (.bl (!b)) s2
theorem re_one {op} {m : EX} (h : RE X a m) : RE X (.BoolOp op [a] pos) m := pe_one h
theorem re_and {m n : EX} (ha : RE X a m) (hb : RE X (.BoolOp .And (b :: rest) pos) n) : RE X (.BoolOp .And (a :: b :: rest) pos) (eAnd m n) :=
  pe_imp (pe_andT ha hb) fun σ H Q ⟨μ, env, st, w, st', S, E, h, k⟩ => by
    obtain ⟨x, s1, h1, h2⟩ := R.bind_ok h
    obtain ⟨bb, s2, h3, h4⟩ := R.bind_ok h2
    obtain ⟨h5, rfl⟩ := truR_ok h3
    refine ⟨μ, env, st, x, s2, S, E, h1, fun μ1 H1 v N1 S1 r1 => ⟨bb, tru_ok' S1 r1 h5, ?_⟩⟩
    cases bb with
    | true =>
      simp only [if_true] at h4 ⊢
      exact ⟨μ1, env, s2, w, st', S1, E.nxt N1, h4, k.mono N1⟩
    | false =>
      simp only [Bool.false_eq_true, if_false] at h4 ⊢
      cases h4
      exact k _ _ _ N1 S1 r1
theorem re_or {m n : EX} (ha : RE X a m) (hb : RE X (.BoolOp .Or (b :: rest) pos) n) : RE X (.BoolOp .Or (a :: b :: rest) pos) (eOr m n) :=
  pe_imp (pe_orT ha hb) fun σ H Q ⟨μ, env, st, w, st', S, E, h, k⟩ => by
    obtain ⟨x, s1, h1, h2⟩ := R.bind_ok h
    obtain ⟨bb, s2, h3, h4⟩ := R.bind_ok h2
    obtain ⟨h5, rfl⟩ := truR_ok h3
    refine ⟨μ, env, st, x, s2, S, E, h1, fun μ1 H1 v N1 S1 r1 => ⟨bb, tru_ok' S1 r1 h5, ?_⟩⟩
    cases bb with
    | false =>
      simp only [Bool.false_eq_true, if_false] at h4 ⊢
      exact ⟨μ1, env, s2, w, st', S1, E.nxt N1, h4, k.mono N1⟩
    | true =>
      simp only [if_true] at h4 ⊢
      cases h4
      exact k _ _ _ N1 S1 r1
theorem re_not {m : EX} (ha : RE X a m) : RE X (.UnaryOp .Not a pos) (eNot m) :=
  pe_imp (pe_notT ha) fun σ H Q ⟨μ, env, st, w, st', S, E, h, k⟩ => by
    obtain ⟨x, s1, h1, h2⟩ := R.bind_ok h
    obtain ⟨bb, s2, h3, h4⟩ := R.bind_ok h2
    obtain ⟨h5, rfl⟩ := truR_ok h3
    cases h4
    exact ⟨μ, env, st, x, _, S, E, h1, fun μ1 H1 v N1 S1 r1 => ⟨bb, tru_ok' S1 r1 h5, k _ _ _ N1 S1 (.bl _)⟩⟩
def eIf (c : TX) (m n : EX) : EX := fun env st => (c env st).bind fun b s1 => if b = true then m env s1 else n env s1
theorem re_if {c : Expr} {mc : TX} {m n : EX} (hc : RT X c mc) (ha : RE X a m) (hb : RE X b n) : RE X (.IfExp c a b pos) (eIf mc m n) :=
  pe_imp (pe_ifExp hc ha hb) fun σ H Q ⟨μ, env, st, w, st', S, E, h, k⟩ => by
    obtain ⟨x, s1, h1, h2⟩ := R.bind_ok h
    refine ⟨μ, env, st, x, s1, S, E, h1, fun μ1 H1 N1 S1 => ?_⟩
    cases x with
    | true =>
      simp only [if_true] at h2 ⊢
      exact ⟨μ1, env, s1, w, st', S1, E.nxt N1, h2, k.mono N1⟩
    | false =>
      simp only [Bool.false_eq_true, if_false] at h2 ⊢
      exact ⟨μ1, env, s1, w, st', S1, E.nxt N1, h2, k.mono N1⟩

/-! ### argument lists, displays, calls by value -/
/-- no star -/
def Pl (e : Expr) : Prop := ∀ (es : List Expr) (env : Env), starEach (e :: es) env = (false, eval e env) :: starEach es env
def aNil : AX := fun _ st => .ok [] st
def aCons (m : EX) (n : AX) : AX := fun env st => (m env st).bind fun x s1 => (n env s1).bind fun xs s2 => .ok (x :: xs) s2
variable {es : List Expr}
theorem ra_nil : RA X [] aNil := pa_imp pa_nil fun σ H Q ⟨μ, env, st, w, st', S, E, h, k⟩ => by
  cases h
  exact k _ _ _ Nxt.refl S .nil
theorem ra_cons {m : EX} {n : AX} (ha : RE X a m) (hr : RA X es n) (hs : Pl a := by exact fun _ _ => rfl) : RA X (a :: es) (aCons m n) :=
  pa_imp (pa_cons ha hr (hs es X.env)) fun σ H Q ⟨μ, env, st, w, st', S, E, h, k⟩ => by
    obtain ⟨x, s1, h1, h2⟩ := R.bind_ok h
    obtain ⟨xs, s2, h3, h4⟩ := R.bind_ok h2
    cases h4
    exact ⟨μ, env, st, x, s1, S, E, h1, fun μ1 H1 v N1 S1 r1 => ⟨μ1, env, s1, xs, _, S1, E.nxt N1, h3, fun μ2 H2 vs N2 S2 r2 => k _ _ _ (N1.trans N2) S2 (.cons (r1.nxt N2) r2)⟩⟩
def eTup (n : AX) : EX := fun env st => (n env st).bind fun xs s1 => if xs.length ≤ 100000 then .ok (.tup xs) s1 else .err
def eLst (n : AX) : EX := fun env st => (n env st).bind fun xs s1 => if xs.length ≤ 100000 then .ok (.ls s1.length) (s1 ++ [.lst xs]) else .err
theorem re_tup {n : AX} {x1} (h : RA X es n) : RE X (.Tuple es x1 pos) (eTup n) := pe_imp (pe_tup h) fun σ H Q ⟨μ, env, st, w, st', S, E, h, k⟩ => by
  obtain ⟨xs, s1, h1, h2⟩ := R.bind_ok h
  split at h2
  · rename_i hz
    cases h2
    exact ⟨μ, env, st, xs, _, S, E, h1, fun μ1 H1 vs N1 S1 r1 => ⟨by rw [r1.length]; exact line_of hz, fun p hp => (k.mono N1).tup S1 r1 hp⟩⟩
  · cases h2
theorem re_lst {n : AX} (h : RA X es n) : RE X (.List es pos) (eLst n) := pe_imp (pe_lst h) fun σ H Q ⟨μ, env, st, w, st', S, E, h, k⟩ => by
  obtain ⟨xs, s1, h1, h2⟩ := R.bind_ok h
  split at h2
  · rename_i hz
    cases h2
    exact ⟨μ, env, st, xs, _, S, E, h1, fun μ1 H1 vs N1 S1 r1 => ⟨by rw [r1.length]; exact line_of hz, fun p hp => (k.mono N1).new S1 r1 hp⟩⟩
  · cases h2
def eCall (f : FX) (n : AX) : EX := fun env st => (n env st).bind fun xs s1 => f xs s1
theorem call_run {f : FX} {n : AX} {σ : L2.St} {H : Hp} {Q : VK} (h : lE X.K (eCall f n) σ H Q) : lA X.K n σ H fun vs H1 => lC X.K f vs H1 Q := by
  obtain ⟨μ, env, st, w, st', S, E, h, k⟩ := h
  obtain ⟨xs, s1, h1, h2⟩ := R.bind_ok h
  exact ⟨μ, env, st, xs, s1, S, E, h1, fun μ1 H1 vs N1 S1 r1 => ⟨μ1, s1, xs, w, st', S1, r1, h2, k.mono N1⟩⟩
variable {x : Str} {p : Pos}
/-- f(e, ..), f a built-in function -/
theorem re_callB {N : List Str} {sc : Scope} (hX : In X N sc) {f : FX} {n : AX} {id : String} (hc : CallR X (.builtin id) (lC X.K f)) (hg : glB sc x = true) (hm : X.mg x = none) (hv : bootBuiltins x = some (.builtin id)) (ha : RA X (a :: es) n) (hn : x ≠ "__name__" := by decide) (hdb : (x == ("__debug__" : Str)) = false := by decide)
    (he : starEach (a :: es) X.env = (false, eval a X.env) :: starEach es X.env := by rfl) (hpl : (backTo pos (starEach es X.env)).any (·.1) = false := by rfl) : RE X (.Call (.Name x p) (a :: es) [] pos) (eCall f n) :=
  pe_imp (pe_callB hc (hX.gl hg) hm hv ha hn hdb he hpl) fun σ H Q h => call_run h
/-- T(e, ..), T a built-in type -/
theorem re_callTy {N : List Str} {sc : Scope} (hX : In X N sc) {f : FX} {n : AX} {T : String} (hc : CallR X (.type T) (lC X.K f)) (hg : glB sc x = true) (hm : X.mg x = none) (hv : bootBuiltins x = some (.type T)) (ha : RA X (a :: es) n) (hn : x ≠ "__name__" := by decide) (hdb : (x == ("__debug__" : Str)) = false := by decide)
    (he : starEach (a :: es) X.env = (false, eval a X.env) :: starEach es X.env := by rfl) (hpl : (backTo pos (starEach es X.env)).any (·.1) = false := by rfl) : RE X (.Call (.Name x p) (a :: es) [] pos) (eCall f n) :=
  pe_imp (pe_callTy hc (hX.gl hg) hm hv ha hn hdb he hpl) fun σ H Q h => call_run h
/-- f(e, ..), f a module's name for a built-in function -/
theorem re_callBfun {N : List Str} {sc : Scope} (hX : In X N sc) {f : FX} {n : AX} {id : String} (hc : CallR X (.builtin id) (lC X.K f)) (hg : glB sc x = true) (hm : X.mg x = some (.builtin id)) (ha : RA X (a :: es) n) (hdb : (x == ("__debug__" : Str)) = false := by decide)
    (he : starEach (a :: es) X.env = (false, eval a X.env) :: starEach es X.env := by rfl) (hpl : (backTo pos (starEach es X.env)).any (·.1) = false := by rfl) : RE X (.Call (.Name x p) (a :: es) [] pos) (eCall f n) :=
  pe_imp (pe_callBfun hc (hX.gl hg) hm ha hdb he hpl) fun σ H Q h => call_run h
end
end Rx

/-! RxC: operators, comparisons, subscripts, built-in functions, by the mirrors' values. -/
namespace Rx
open PySem PySem.Spec PyProof.Rows L2

section
variable {X : Cx}
theorem rep_int {K : PySem.W.Frag} {μ : Nat → Addr} {L : Nat} {H : Hp} {v : V} {i : Int} (r : Rep K μ L H v (.int i)) : v = .int i := by cases r; rfl
theorem rep_bl {K : PySem.W.Frag} {μ : Nat → Addr} {L : Nat} {H : Hp} {v : V} {i : Bool} (r : Rep K μ L H v (.bl i)) : v = .bl i := by cases r; rfl
theorem rep_str {K : PySem.W.Frag} {μ : Nat → Addr} {L : Nat} {H : Hp} {v : V} {i : Str} (r : Rep K μ L H v (.str i)) : v = .str i := by cases r; rfl
theorem rep_ls {K : PySem.W.Frag} {μ : Nat → Addr} {L : Nat} {H : Hp} {v : V} {n : Nat} (r : Rep K μ L H v (.ls n)) : v = .ref (μ n) ∧ n < L := by cases r; exact ⟨rfl, by assumption⟩
theorem rep_tup {K : PySem.W.Frag} {μ : Nat → Addr} {L : Nat} {H : Hp} {v : V} {ws : List W} (r : Rep K μ L H v (.tup ws)) : ∃ a vs, v = .ref a ∧ Tp K H a vs ∧ Reps K μ L H vs ws := by cases r; exact ⟨_, _, rfl, by assumption, by assumption⟩
theorem rep_frz {K : PySem.W.Frag} {μ : Nat → Addr} {L : Nat} {H : Hp} {v : V} {ns : List Int} (r : Rep K μ L H v (.frz ns)) : ∃ a, v = .ref a ∧ Fz K H a ns := by cases r; exact ⟨_, rfl, by assumption⟩
theorem rep_non {K : PySem.W.Frag} {μ : Nat → Addr} {L : Nat} {H : Hp} {v : V} (r : Rep K μ L H v .non) : v = .non := by cases r; rfl
theorem rep_ty {K : PySem.W.Frag} {μ : Nat → Addr} {L : Nat} {H : Hp} {v : V} {n : String} (r : Rep K μ L H v (.ty n)) : v = .ty n := by cases r; rfl

/-! ### whole numbers -/
def fInt (g : Int → Int → R Int) : W → W → Sto → R W
  | .int i, .int j, st => match g i j with
    | .ok k _ => .ok (.int k) st
    | .err => .err
  | _, _, _ => .err
def intOk (C : Int → Int → Bool) (g : Int → Int → Int) : Int → Int → R Int := fun i j => if C i j = true then .ok (g i j) [] else .err
theorem fInt_run {C : Int → Int → Bool} {g : Int → Int → Int} {K : PySem.W.Frag} {x y : V} {H : Hp} {Q : VK} (h : lO K (fInt (intOk C g)) x y H Q) : ∃ i j, x = .int i ∧ y = .int j ∧ C i j = true ∧ Q (.int (g i j)) H := by
  obtain ⟨μ, st, a, b, w, st', S, ra, rb, e, k⟩ := h
  cases a with
  | int i =>
    cases b with
    | int j =>
      have := rep_int ra; subst this
      have := rep_int rb; subst this
      by_cases hc : C i j = true
      · have e' : R.ok (W.int (g i j)) st = R.ok w st' := by
          rw [← e]
          simp [fInt, intOk, hc]
        cases e'
        exact ⟨i, j, rfl, rfl, hc, k.here S (.int _)⟩
      · simp [fInt, intOk, hc] at e
    | _ => cases e
  | _ => cases e
/-- a comparison of whole numbers -/
def fCmp (g : Int → Int → Bool) : W → W → Sto → R W
  | .int i, .int j, st => .ok (.bl (g i j)) st
  | _, _, _ => .err
theorem fCmp_run {g : Int → Int → Bool} {K : PySem.W.Frag} {x y : V} {H : Hp} {Q : VK} (h : lO K (fCmp g) x y H Q) : ∃ i j, x = .int i ∧ y = .int j ∧ Q (.bl (g i j)) H := by
  obtain ⟨μ, st, a, b, w, st', S, ra, rb, e, k⟩ := h
  cases a with
  | int i =>
    cases b with
    | int j =>
      have := rep_int ra; subst this
      have := rep_int rb; subst this
      cases e
      exact ⟨i, j, rfl, rfl, k.here S (.bl _)⟩
    | _ => cases e
  | _ => cases e
def ltI (i j : Int) : Bool := decide (i < j)
def leI (i j : Int) : Bool := decide (i ≤ j)
def gtI (i j : Int) : Bool := decide (j < i)
def geI (i j : Int) : Bool := decide (j ≤ i)
theorem o_lt : OpR X (compareOp .Lt) (lO X.K (fCmp ltI)) := op_imp op_lt fun _ _ _ _ h => fCmp_run h
theorem o_le : OpR X (compareOp .LtE) (lO X.K (fCmp leI)) := op_imp op_le fun _ _ _ _ h => fCmp_run h
theorem o_gt : OpR X (compareOp .Gt) (lO X.K (fCmp gtI)) := op_imp op_gt fun _ _ _ _ h => fCmp_run h
theorem o_ge : OpR X (compareOp .GtE) (lO X.K (fCmp geI)) := op_imp op_ge fun _ _ _ _ h => fCmp_run h

def yesC : Int → Int → Bool := fun _ _ => true
def small63 (i : Int) : Bool := Nat.blt i.natAbs 9223372036854775808
def bigOk (i : Int) : Bool := Nat.blt i.natAbs (2 ^ 9000)
def mulC : Int → Int → Bool := fun i j => small63 i || (small63 j || (bigOk i && bigOk j))
def divC : Int → Int → Bool := fun _ j => (j != 0) && (small63 j || bigOk j)
def modC : Int → Int → Bool := fun _ j => j != 0
def powC : Int → Int → Bool := fun i j => decide (0 ≤ j) && (decide (j ≤ 1000) && small63 i)
theorem blt_lt {a b : Nat} (h : Nat.blt a b = true) : a < b := by
  have := Nat.le_of_ble_eq_true (show Nat.ble (a + 1) b = true from h)
  omega
theorem small63_lt {i : Int} (h : small63 i = true) : i.natAbs < 2 ^ 63 := by
  have := blt_lt h
  omega
theorem bigOk_lt {i : Int} (h : bigOk i = true) : i.natAbs < 2 ^ 9000 := blt_lt h
theorem mulC_ok {i j : Int} (h : mulC i j = true) : IntMulOk i j := by
  unfold mulC at h
  rcases Bool.or_eq_true_iff.mp h with h | h
  · have := small63_lt h
    exact CMul.ok (.inl ⟨by omega, by omega⟩)
  · rcases Bool.or_eq_true_iff.mp h with h | h
    · have := small63_lt h
      exact CMul.ok (.inr ⟨by omega, by omega⟩)
    · obtain ⟨h1, h2⟩ := Bool.and_eq_true_iff.mp h
      exact CMulW.ok (wide_mul (bigOk_lt h1) (bigOk_lt h2) (by decide) (by decide) (by decide))
theorem divC_ok {i j : Int} (h : divC i j = true) : j ≠ 0 ∧ j.natAbs.log2 < 9000 := by
  unfold divC at h
  obtain ⟨h1, h2⟩ := Bool.and_eq_true_iff.mp h
  refine ⟨by simpa using h1, ?_⟩
  rcases Bool.or_eq_true_iff.mp h2 with h | h
  · exact Nat.lt_trans (PySem.Flt.log2_lt_of (k := 63) (by decide) (small63_lt h)) (by decide)
  · exact PySem.Flt.log2_lt_of (by decide) (bigOk_lt h)
theorem op_fdivA : OpR X (binaryOp .FloorDiv) (rI (fun _ j => j ≠ 0 ∧ j.natAbs.log2 < 9000) fun i j => .int (i.fdiv j)) := opI fun i j _ _ _ _ _ hc q => floordiv_int hc.1 q (.inl (PyProof.noPylong_of_log2 hc.2))
theorem op_mulA : OpR X (binaryOp .Mult) (rI (fun i j => IntMulOk i j) fun i j => .int (i * j)) := opI fun _ _ _ _ _ _ _ hc q => mul_int q hc
def fSub := fInt (intOk yesC (· - ·))
def fDiv := fInt (intOk divC Int.fdiv)
def fMod := fInt (intOk modC Int.fmod)
def fPow := fInt (intOk powC fun i j => i ^ j.toNat)
def fShl := fInt (intOk powC fun i j => i * 2 ^ j.toNat)
theorem o_sub : OpR X (binaryOp .Sub) (lO X.K fSub) := op_imp op_sub fun _ _ _ _ h => by
  obtain ⟨i, j, e1, e2, _, q⟩ := fInt_run h
  exact ⟨i, j, e1, e2, q⟩
theorem o_div : OpR X (binaryOp .FloorDiv) (lO X.K fDiv) := op_imp op_fdivA fun _ _ _ _ h => by
  obtain ⟨i, j, e1, e2, c, q⟩ := fInt_run h
  exact ⟨i, j, e1, e2, divC_ok c, q⟩
theorem o_mod : OpR X (binaryOp .Mod) (lO X.K fMod) := op_imp op_modN fun _ _ _ _ h => by
  obtain ⟨i, j, e1, e2, c, q⟩ := fInt_run h
  exact ⟨i, j, e1, e2, by simpa [modC] using c, q⟩
theorem powC_ok {i j : Int} (c : powC i j = true) : CPow i j := by
  unfold powC at c
  simp only [Bool.and_eq_true, decide_eq_true_eq] at c
  have := small63_lt c.2.2
  exact ⟨c.1, by omega, by omega⟩
theorem o_pow : OpR X (binaryOp .Pow) (lO X.K fPow) := op_imp op_pow fun _ _ _ _ h => by
  obtain ⟨i, j, e1, e2, c, q⟩ := fInt_run h
  exact ⟨i, j, e1, e2, powC_ok c, q⟩
theorem o_shl : OpR X (binaryOp .LShift) (lO X.K fShl) := op_imp op_shl fun _ _ _ _ h => by
  obtain ⟨i, j, e1, e2, c, q⟩ := fInt_run h
  exact ⟨i, j, e1, e2, powC_ok c, q⟩
def fNeg : W → Sto → R W
  | .int i, st => .ok (.int (-i)) st
  | _, _ => .err
theorem o_neg : UnR X (unaryOp .USub) (lU X.K fNeg) := un_imp un_neg fun x H Q ⟨μ, st, a, w, st', S, ra, e, k⟩ => by
  cases a with
  | int i =>
    have := rep_int ra; subst this
    cases e
    exact ⟨i, rfl, k.here S (.int _)⟩
  | _ => cases e

/-! ### + -/
def fAdd : W → W → Sto → R W
  | .int i, .int j, st => .ok (.int (i + j)) st
  | .str a, .str b, st => if a.length + b.length ≤ 100000 then .ok (.str (a ++ b)) st else .err
  | .tup xs, .tup ys, st => if xs.length + ys.length ≤ 100000 then .ok (.tup (xs ++ ys)) st else .err
  | .ls n, .ls m, st => match st[n]?, st[m]? with
    | some (.lst xs), some (.lst ys) => if xs.length + ys.length ≤ 100000 then .ok (.ls st.length) (st ++ [.lst (xs ++ ys)]) else .err
    | _, _ => .err
  | _, _, _ => .err
theorem o_add : OpR X (binaryOp .Add) (lO X.K fAdd) := op_imp ((op_add.or op_add_str).or (op_catA.or op_cat)) fun x y H Q ⟨μ, st, a, b, w, st', S, ra, rb, e, k⟩ => by
  cases a with
  | int i =>
    cases b with
    | int j =>
      have := rep_int ra; subst this
      have := rep_int rb; subst this
      cases e
      exact .inl (.inl ⟨i, j, rfl, rfl, k.here S (.int _)⟩)
    | _ => cases e
  | str i =>
    cases b with
    | str j =>
      have := rep_str ra; subst this
      have := rep_str rb; subst this
      simp only [fAdd] at e
      split at e
      · cases e
        exact .inl (.inr ⟨i, j, rfl, rfl, line_of (by assumption), k.here S (.str _)⟩)
      · cases e
    | _ => cases e
  | tup xs =>
    cases b with
    | tup ys =>
      obtain ⟨a1, vs, rfl, t1, r1⟩ := rep_tup ra
      obtain ⟨a2, us, rfl, t2, r2⟩ := rep_tup rb
      simp only [fAdd] at e
      split at e
      · rename_i hz
        cases e
        refine .inr (.inl ⟨a1, a2, vs, us, rfl, rfl, t1.sq, t2.sq, by rw [r1.length, r2.length]; exact line_of hz, fun h1 => ?_, fun h1 h2 => ?_, fun h1 h2 p hp => ?_⟩)
        · subst h1
          cases r1
          exact k.here S (.tup t2 r2)
        · subst h2
          cases r2
          rw [List.append_nil] at k
          exact k.here S (.tup t1 r1)
        · exact k.tup S (r1.append r2) hp
      · cases e
    | _ => cases e
  | ls n =>
    cases b with
    | ls m =>
      obtain ⟨rfl, h1⟩ := rep_ls ra
      obtain ⟨rfl, h2⟩ := rep_ls rb
      simp only [fAdd] at e
      split at e
      · rename_i xs ys e1 e2
        split at e
        · rename_i hz
          cases e
          obtain ⟨vs, q1, r1⟩ := S.lstAt e1
          obtain ⟨us, q2, r2⟩ := S.lstAt e2
          exact .inr (.inr ⟨_, _, vs, us, rfl, rfl, q1, q2, by rw [r1.length, r2.length]; exact line_of hz, fun p hp => k.new S (r1.append r2) hp⟩)
        · cases e
      · cases e
    | _ => cases e
  | _ => cases e

/-! ### * -/
def repW (k : Nat) (xs : List W) : List W := (List.replicate k xs).flatten
def fMul : W → W → Sto → R W
  | .int i, .int j, st => if mulC i j = true then .ok (.int (i * j)) st else .err
  | .ls n, .int j, st => match st[n]? with
    | some (.lst xs) => if 0 ≤ j ∧ j ≤ 1000 ∧ xs.length ≤ 1000 then .ok (.ls st.length) (st ++ [.lst (repW j.toNat xs)]) else .err
    | _ => .err
  | .tup xs, .int j, st => if 1 ≤ j ∧ j ≤ 1000 ∧ xs.length ≤ 1000 ∧ xs ≠ [] then .ok (.tup (repW j.toNat xs)) st else .err
  | _, _, _ => .err
theorem Reps.rep {K : PySem.W.Frag} {μ : Nat → Addr} {L : Nat} {H : Hp} {vs : List V} {ws : List W} (h : Reps K μ L H vs ws) : ∀ k : Nat, Reps K μ L H (List.replicate k vs).flatten (repW k ws)
  | 0 => .nil
  | k + 1 => by
    unfold repW
    simp only [List.replicate_succ, List.flatten_cons]
    exact h.append (h.rep k)
theorem tuple_mul1 (l : Addr) (items : Array Value) (n : Nat) (dd : Option Addr) (sl : Array (Option Value)) (u : Tok) :
    Meets (Builtin.«tuple.__mul__» ⟨[.ref l, .int 1 u], []⟩) (fun _ R s => s.heap.get? l = some { cls := .type "tuple", dict := dd, data := .seq items n, slots := sl } ∧
      R (.ok (.ret (Value.ref l))) s) :=
  .of_wp fun prog w A R s h => by
    obtain ⟨hp, g, d, tk, os⟩ := s
    obtain ⟨hl, h⟩ := h
    have f1 := AutoSeq1.idx_int
    have c0 : (decide ((1 : Int) < -(2 ^ 63)) || decide ((1 : Int) ≥ 2 ^ 63)) = false := by decide
    have c1 : (items.isEmpty || (1 : Int) == 1) = true := by simp
    wp_walk using wpAny_loadPart' hl
    repeat (first
      | (refine wpAny_ite_false (decide_eq_false (by rw [c0]; exact Bool.false_ne_true)) ?_; wp_walk using wpAny_loadPart' hl)
      | (refine wpAny_ite_true (decide_eq_true (by rw [c1])) ?_; wp_walk using wpAny_loadPart' hl))
    exact ⟨_, rfl, h⟩
def rRep1 (K : PySem.W.Frag) : R2 := fun x y H Q => ∃ l xs, x = .ref l ∧ y = .int 1 ∧ SqT K H l xs ∧ xs ≠ [] ∧ Q (.ref l) H
theorem op_rep1 : OpR X (binaryOp .Mult) (rRep1 X.K) := by
  intro pins s σ H x y v u Q I rx ry h
  obtain ⟨l, xs, rfl, rfl, hT, hne, q⟩ := h
  cases rx
  obtain ⟨t, rfl⟩ := ry
  obtain ⟨its, r, ⟨⟨cls, dd, data, sl⟩, ho, hc, n, hd⟩, hs⟩ := I.tuple hT
  simp only at hc hd
  subst hc hd
  refine wpAny_binaryOp_repeat_ref (T := "tuple") (U := "int") (by decide) ⟨_, ho, rfl⟩ (fun s' => typeIs_int s' 1 t) noFill_tuple_mul F.fills_int_mul F.slot_int_rmul repeat_tuple F.slot_int_index.lookup
    (call_meets F.slot_int_rmul (typeIs_int s 1 t) F.entry_int_rmul (F.args_int_rmul_2 _ _) (int_rmul_tuple 1 t l its.toArray n dd sl)
      ⟨ho, rfl, ⟨_, ho, rfl⟩, call_meets F.slot_tuple_mul ⟨_, ho, rfl⟩ F.entry_tuple_mul (F.args_tuple_mul_2 _ _) (tuple_mul1 l its.toArray n dd sl t) ⟨ho, ?_⟩⟩)
  exact ⟨.ref l, H, I, rfl, q⟩
theorem o_mul : OpR X (binaryOp .Mult) (lO X.K fMul) := op_imp ((op_mulA.or op_rep).or (op_repT.or op_rep1)) fun x y H Q ⟨μ, st, a, b, w, st', S, ra, rb, e, k⟩ => by
  cases a with
  | int i =>
    cases b with
    | int j =>
      have := rep_int ra; subst this
      have := rep_int rb; subst this
      simp only [fMul] at e
      split at e
      · rename_i hc
        cases e
        exact .inl (.inl ⟨i, j, rfl, rfl, mulC_ok hc, k.here S (.int _)⟩)
      · cases e
    | _ => cases e
  | ls n =>
    cases b with
    | int j =>
      obtain ⟨rfl, h1⟩ := rep_ls ra
      have := rep_int rb; subst this
      simp only [fMul] at e
      split at e
      · rename_i xs e1
        split at e
        · rename_i hz
          cases e
          obtain ⟨vs, q1, r1⟩ := S.lstAt e1
          refine .inl (.inr ⟨_, j, vs, rfl, rfl, q1, by omega, by omega, ?_, fun p hp => k.new S (r1.rep _) hp⟩)
          rw [r1.length, sizeLine_eq]
          have : xs.length * j.toNat ≤ 1000 * 1000 := Nat.mul_le_mul hz.2.2 (by omega)
          omega
        · cases e
      · cases e
    | _ => cases e
  | tup xs =>
    cases b with
    | int j =>
      obtain ⟨a1, vs, rfl, t1, r1⟩ := rep_tup ra
      have := rep_int rb; subst this
      simp only [fMul] at e
      split at e
      · rename_i hz
        cases e
        have hne : vs ≠ [] := fun z => by
          subst z
          cases r1
          exact hz.2.2.2 rfl
        by_cases h1 : j = 1
        · subst h1
          refine .inr (.inr ⟨a1, vs, rfl, rfl, t1.sq, hne, k.here S (.tup t1 ?_)⟩)
          have := r1.rep 1
          simpa using this
        · exact .inr (.inl ⟨a1, j, vs, rfl, rfl, t1.sq, hne, by omega, hz.2.1, by rw [r1.length]; exact hz.2.2.1, fun p hp => k.tup S (r1.rep _) hp⟩)
      · cases e
    | _ => cases e
  | _ => cases e

/-! ### data: ==, in -/
/-- a value as plain data, n deep -/
def datAll (f : W → Option PyData) : List W → Option (List PyData)
  | [] => some []
  | x :: xs => match f x, datAll f xs with
    | some d, some ds => some (d :: ds)
    | _, _ => none
def dat (st : Sto) : Nat → W → Option PyData
  | 0, _ => none
  | n + 1, w => match w with
    | .non => some .none
    | .bl b => some (.bool b)
    | .int i => some (.int i)
    | .str x => if PyData.strOk x = true then some (.str x) else none
    | .ty _ => none
    | .tup xs => (datAll (dat st n) xs).map .tuple
    | .ls k => match st[k]? with
      | some (.lst xs) => (datAll (dat st n) xs).map .list
      | _ => none
    | .frz ns => some (.list (ns.map .int))
theorem datAll_len {f : W → Option PyData} : ∀ {xs : List W} {ds : List PyData}, datAll f xs = some ds → xs.length = ds.length
  | [], ds, h => by cases h; rfl
  | x :: xs, ds, h => by
    unfold datAll at h
    split at h
    · cases h
      simp [datAll_len (by assumption)]
    · cases h
theorem dpInts {K : PySem.W.Frag} {H : Hp} : ∀ ns : List Int, DpAll K H (ns.map V.int) (ns.map PyData.int)
  | [] => .nil
  | n :: ns => .cons (.int n) (dpInts ns)
theorem dat_dp {K : PySem.W.Frag} {μ : Nat → Addr} {H : Hp} {st : Sto} (S : Sim K μ st H) : ∀ (n : Nat) {v : V} {w : W} {d : PyData}, Rep K μ st.length H v w → dat st n w = some d → Dp K H v d
  | 0, _, _, _, _, h => by cases h
  | n + 1, v, w, d, r, h => by
    have all : ∀ {vs : List V} {ws : List W} {ds : List PyData}, Reps K μ st.length H vs ws → datAll (dat st n) ws = some ds → DpAll K H vs ds := by
      intro vs ws
      induction ws generalizing vs with
      | nil => intro ds r h; cases r; cases h; exact .nil
      | cons x xs ih =>
        intro ds r h
        cases r with
        | cons r rs =>
          unfold datAll at h
          split at h
          · rename_i h1 h2
            cases h
            exact .cons (dat_dp S n r h1) (ih rs h2)
          · cases h
    cases r with
    | non => cases h; exact .non
    | bl b => cases h; exact .bl b
    | int i => cases h; exact .int i
    | str x =>
      simp only [dat] at h
      split at h
      · cases h; exact .str x
      · cases h
    | ty _ => cases h
    | tup t rs =>
      simp only [dat] at h
      cases e : datAll (dat st n) _ with
      | none => rw [e] at h; cases h
      | some ds => rw [e] at h; cases h; exact .tup t.sq (all rs e)
    | ls hn =>
      simp only [dat] at h
      split at h
      · rename_i xs e1
        cases e : datAll (dat st n) _ with
        | none => rw [e] at h; cases h
        | some ds =>
          rw [e] at h
          cases h
          obtain ⟨vs, q1, r1⟩ := S.lstAt e1
          exact .lst (.inl (.inl q1)) (all r1 e)
      · cases h
    | frz f => cases h; exact .lst f.sq (dpInts _)
theorem shInts : ∀ ns : List Int, PyData.canLayAll0 (ns.map PyData.int) = true ∧ PyData.depthAll (ns.map PyData.int) ≤ 0
  | [] => ⟨rfl, by simp [PyData.depthAll]⟩
  | n :: ns => by
    have h := shInts ns
    refine ⟨by simp [PyData.canLayAll0, PyData.canLay0, h.1], ?_⟩
    have := h.2
    simp [PyData.depthAll, PyData.depth]
    omega
theorem dat_sh {st : Sto} : ∀ (n : Nat) {w : W} {d : PyData}, dat st n w = some d → d.canLay0 = true ∧ d.depth ≤ n
  | 0, _, _, h => by cases h
  | n + 1, w, d, h => by
    have all : ∀ {ws : List W} {ds : List PyData}, datAll (dat st n) ws = some ds → PyData.canLayAll0 ds = true ∧ PyData.depthAll ds ≤ n := by
      intro ws
      induction ws with
      | nil => intro ds h; cases h; exact ⟨rfl, by simp [PyData.depthAll]⟩
      | cons x xs ih =>
        intro ds h
        unfold datAll at h
        split at h
        · rename_i h1 h2
          cases h
          have a := dat_sh n h1
          have b := ih h2
          refine ⟨by simp [PyData.canLayAll0, a.1, b.1], ?_⟩
          have a2 := a.2
          have b2 := b.2
          simp [PyData.depthAll]
          omega
        · cases h
    cases w with
    | non => cases h; exact ⟨rfl, by simp [PyData.depth]⟩
    | bl b => cases h; exact ⟨rfl, by simp [PyData.depth]⟩
    | int i => cases h; exact ⟨rfl, by simp [PyData.depth]⟩
    | str x =>
      simp only [dat] at h
      split at h
      · rename_i hs
        cases h; exact ⟨by simpa [PyData.canLay0] using hs, by simp [PyData.depth]⟩
      · cases h
    | ty _ => cases h
    | tup xs =>
      simp only [dat] at h
      cases e : datAll (dat st n) xs with
      | none => rw [e] at h; cases h
      | some ds =>
        rw [e] at h; cases h
        have a := all e
        refine ⟨by simp [PyData.canLay0, a.1], ?_⟩
        have a2 := a.2
        simp [PyData.depth]
        omega
    | ls k =>
      simp only [dat] at h
      split at h
      · rename_i xs e1
        cases e : datAll (dat st n) xs with
        | none => rw [e] at h; cases h
        | some ds =>
          rw [e] at h; cases h
          have a := all e
          refine ⟨by simp [PyData.canLay0, a.1], ?_⟩
          have a2 := a.2
          simp [PyData.depth]
          omega
      · cases h
    | frz ns =>
      cases h
      have a := shInts ns
      refine ⟨by simp [PyData.canLay0, a.1], ?_⟩
      have a2 := a.2
      simp [PyData.depth]
      omega
theorem dat_shaped {st : Sto} {n : Nat} {w : W} {d : PyData} (hn : n ≤ 20) (h : dat st n w = some d) : SeqAt.shaped d = true := by
  obtain ⟨a, b⟩ := dat_sh n h
  unfold SeqAt.shaped
  rw [a]
  simp
  omega
def deep : Nat := 12
def fEq (neg : Bool) : W → W → Sto → R W := fun a b st => match dat st deep a, dat st deep b with
  | some d, some e => .ok (.bl (xor neg (PyData.eqv d e))) st
  | _, _ => .err
theorem o_eq {N : List Str} {sc : Scope} (hX : In X N sc) : OpR X (compareOp .Eq) (lO X.K (fEq false)) := op_imp (op_eqD (by have := hX.units; omega)) fun x y H Q ⟨μ, st, a, b, w, st', S, ra, rb, e, k⟩ => by
  unfold fEq at e
  split at e
  · rename_i d1 d2 h1 h2
    cases e
    rw [Bool.false_xor] at k
    exact ⟨d1, d2, dat_dp S _ ra h1, dat_dp S _ rb h2, dat_shaped (by decide) h1, dat_shaped (by decide) h2, k.here S (.bl _)⟩
  · cases e
theorem o_ne {N : List Str} {sc : Scope} (hX : In X N sc) : OpR X (compareOp .NotEq) (lO X.K (fEq true)) := op_imp (op_neD (by have := hX.units; omega)) fun x y H Q ⟨μ, st, a, b, w, st', S, ra, rb, e, k⟩ => by
  unfold fEq at e
  split at e
  · rename_i d1 d2 h1 h2
    cases e
    rw [Bool.true_xor] at k
    exact ⟨d1, d2, dat_dp S _ ra h1, dat_dp S _ rb h2, dat_shaped (by decide) h1, dat_shaped (by decide) h2, k.here S (.bl _)⟩
  · cases e
def rInT (K : PySem.W.Frag) : R2 := fun x y H Q => ∃ d ds, Dp K H x d ∧ Dp K H y (.tuple ds) ∧ SeqAt.shaped d = true ∧ SeqAt.shaped (.tuple ds) = true ∧ Q (.bl (ds.any fun z => PyData.eqv z d)) H
def rNotInT (K : PySem.W.Frag) : R2 := fun x y H Q => ∃ d ds, Dp K H x d ∧ Dp K H y (.tuple ds) ∧ SeqAt.shaped d = true ∧ SeqAt.shaped (.tuple ds) = true ∧ Q (.bl (!ds.any fun z => PyData.eqv z d)) H
theorem room_inT {A : Around} {d : PyData} {ds : List PyData} (h : SeqAt.shaped d = true) (hu : A.units + 65 < cLine) : A.units + 1 + min (PyData.depthAll ds) d.depth < cLine := by
  have := SeqAt.depth_of_shaped h
  have h2 : min (PyData.depthAll ds) d.depth ≤ d.depth := Nat.min_le_right _ _
  omega
theorem op_inT (hu : X.A.units + 65 < cLine) : OpR X (compareOp .In) (rInT X.K) := by
  intro pins s σ H x y v u Q I rx ry h
  obtain ⟨d, ds, hd, he, sd, se, q⟩ := h
  obtain ⟨as, r1⟩ := Dp.reads I d x v hd rx
  obtain ⟨bs, r2⟩ := Dp.reads I (.tuple ds) y u he ry
  exact SeqAt.in_tuple_reads r2 r1 (SeqAt.canLay_of_shaped se) (SeqAt.canLay_of_shaped sd) (room_inT sd hu) ⟨.bl _, H, I, rfl, q⟩
theorem op_notInT (hu : X.A.units + 65 < cLine) : OpR X (compareOp .NotIn) (rNotInT X.K) := by
  intro pins s σ H x y v u Q I rx ry h
  obtain ⟨d, ds, hd, he, sd, se, q⟩ := h
  obtain ⟨as, r1⟩ := Dp.reads I d x v hd rx
  obtain ⟨bs, r2⟩ := Dp.reads I (.tuple ds) y u he ry
  exact SeqAt.notIn_tuple_reads r2 r1 (SeqAt.canLay_of_shaped se) (SeqAt.canLay_of_shaped sd) (room_inT sd hu) ⟨.bl _, H, I, rfl, q⟩
def fIn (neg : Bool) : W → W → Sto → R W := fun a b st => match dat st deep a, dat st deep b with
  | some d, some (.tuple ds) => .ok (.bl (xor neg (ds.any fun z => PyData.eqv z d))) st
  | some d, some (.list ds) => .ok (.bl (xor neg (ds.any fun z => PyData.eqv z d))) st
  | _, _ => .err
theorem o_in {N : List Str} {sc : Scope} (hX : In X N sc) : OpR X (compareOp .In) (lO X.K (fIn false)) := op_imp ((op_inT hX.units).or (op_inD hX.units)) fun x y H Q ⟨μ, st, a, b, w, st', S, ra, rb, e, k⟩ => by
  unfold fIn at e
  split at e
  · rename_i d1 d2 h1 h2
    cases e
    rw [Bool.false_xor] at k
    exact .inl ⟨d1, d2, dat_dp S _ ra h1, dat_dp S _ rb h2, dat_shaped (by decide) h1, dat_shaped (by decide) h2, k.here S (.bl _)⟩
  · rename_i d1 d2 h1 h2
    cases e
    rw [Bool.false_xor] at k
    exact .inr ⟨d1, d2, dat_dp S _ ra h1, dat_dp S _ rb h2, dat_shaped (by decide) h1, dat_shaped (by decide) h2, k.here S (.bl _)⟩
  · cases e
theorem o_notin {N : List Str} {sc : Scope} (hX : In X N sc) : OpR X (compareOp .NotIn) (lO X.K (fIn true)) := op_imp ((op_notInT hX.units).or (op_notInD hX.units)) fun x y H Q ⟨μ, st, a, b, w, st', S, ra, rb, e, k⟩ => by
  unfold fIn at e
  split at e
  · rename_i d1 d2 h1 h2
    cases e
    rw [Bool.true_xor] at k
    exact .inl ⟨d1, d2, dat_dp S _ ra h1, dat_dp S _ rb h2, dat_shaped (by decide) h1, dat_shaped (by decide) h2, k.here S (.bl _)⟩
  · rename_i d1 d2 h1 h2
    cases e
    rw [Bool.true_xor] at k
    exact .inr ⟨d1, d2, dat_dp S _ ra h1, dat_dp S _ rb h2, dat_shaped (by decide) h1, dat_shaped (by decide) h2, k.here S (.bl _)⟩
  · cases e
/-- is, is not: beside None, of two truth values -/
def fIs (neg : Bool) : W → W → Sto → R W
  | .bl a, .bl b, st => .ok (.bl (xor neg (decide (a = b)))) st
  | .non, .non, st => .ok (.bl (xor neg true)) st
  | _, .non, st => .ok (.bl (xor neg false)) st
  | _, _, _ => .err
theorem is_run {neg : Bool} {K : PySem.W.Frag} {x y : V} {H : Hp} {Q : VK} (h : lO K (fIs neg) x y H Q) : (∃ a b, x = .bl a ∧ y = .bl b ∧ Q (.bl (xor neg (decide (a = b)))) H) ∨ (y = .non ∧ Q (.bl (xor neg (decide (x = .non)))) H) := by
  obtain ⟨μ, st, a, b, w, st', S, ra, rb, e, k⟩ := h
  cases b with
  | bl b =>
    cases a with
    | bl a =>
      have := rep_bl ra; subst this
      have := rep_bl rb; subst this
      cases e
      exact .inl ⟨a, b, rfl, rfl, k.here S (.bl _)⟩
    | _ => cases e
  | non =>
    have := rep_non rb; subst this
    refine .inr ⟨rfl, ?_⟩
    cases ra <;> cases e <;> exact k.here S (.bl _)
  | _ => cases a <;> cases e
theorem o_is : OpR X (compareOp .Is) (lO X.K (fIs false)) := op_imp (op_isBl.or op_isN) fun x y H Q h => by
  rcases is_run h with ⟨a, b, e1, e2, q⟩ | ⟨e, q⟩
  · exact .inl ⟨a, b, e1, e2, by simpa using q⟩
  · exact .inr ⟨e, by simpa using q⟩
theorem o_isnot : OpR X (compareOp .IsNot) (lO X.K (fIs true)) := op_imp (op_notBl.or op_notN) fun x y H Q h => by
  rcases is_run h with ⟨a, b, e1, e2, q⟩ | ⟨e, q⟩
  · exact .inl ⟨a, b, e1, e2, by simpa using q⟩
  · exact .inr ⟨e, by simpa using q⟩
end
end Rx

/-! RxD: subscripts, slices, stores, built-in functions, methods of lists. -/
namespace Rx
open PySem PySem.Spec PyProof.Rows L2

section
variable {X : Cx} {e a b c : Expr} {pos : Pos}

/-! ### x[i] -/
theorem ix_imp {r r' : R2} (h : IxR X r) (i : ∀ x y H Q, r' x y H Q → r x y H Q) : IxR X r' := fun va sl pins s σ H x y v u Q I rx ry q => h va sl pins s σ H x y v u Q I rx ry (i x y H Q q)
theorem sl_imp {r r' : V → Option Int → Option Int → Hp → VK → Prop} (h : SlR X r) (i : ∀ x lo hi H Q, r' x lo hi H Q → r x lo hi H Q) : SlR X r' := fun pins s σ H x v vl vu lo hi sl Q I rx hs p1 p2 q => h pins s σ H x v vl vu lo hi sl Q I rx hs p1 p2 (i _ _ _ _ _ q)
theorem mt_imp {id : String} {r r' : V → List V → Hp → VK → Prop} (h : MtR X id r) (i : ∀ x xs H Q, r' x xs H Q → r x xs H Q) : MtR X id r' := fun pins s σ H x xs v us Q I rx rs q => h pins s σ H x xs v us Q I rx rs (i _ _ _ _ q)
theorem Reps.atI {K : PySem.W.Frag} {μ : Nat → Addr} {L : Nat} {H : Hp} {vs : List V} {ws : List W} {i : Int} {w : W} (r : Reps K μ L H vs ws) (h : atI ws i = some w) : ∃ v, L2.atI vs i = some v ∧ Rep K μ L H v w := by
  unfold L2.atI at h ⊢
  rw [r.length]
  cases e : ixN ws.length i with
  | none => rw [e] at h; cases h
  | some j =>
    rw [e] at h
    exact r.get h
def fIx : W → W → Sto → R W := fun x y st => match y with
  | .int i => match x with
    | .tup xs => match atI xs i with
      | some w => .ok w st
      | none => .err
    | .ls n => match st[n]? with
      | some (.lst xs) => match atI xs i with
        | some w => .ok w st
        | none => .err
      | none => .err
    | .frz ns => match atI ns i with
      | some k => .ok (.int k) st
      | none => .err
    | _ => .err
  | _ => .err
theorem atI_map {α β : Type} (f : α → β) (xs : List α) (i : Int) : L2.atI (xs.map f) i = (L2.atI xs i).map f := by
  unfold L2.atI
  rw [List.length_map]
  cases ixN xs.length i with
  | none => rfl
  | some j => simp
theorem i_ix : IxR X (lO X.K fIx) := ix_imp (ix_list.or ix_tup) fun x y H Q ⟨μ, st, a, b, w, st', S, ra, rb, e, k⟩ => by
  cases b with
  | int i =>
    have := rep_int rb; subst this
    cases a with
    | tup xs =>
      obtain ⟨a1, vs, rfl, t1, r1⟩ := rep_tup ra
      simp only [fIx] at e
      split at e
      · rename_i h1
        cases e
        obtain ⟨v, h2, h3⟩ := r1.atI h1
        exact .inr ⟨a1, vs, i, v, rfl, rfl, t1.sq, h2, k.here S h3⟩
      · cases e
    | ls n =>
      obtain ⟨rfl, hn⟩ := rep_ls ra
      simp only [fIx] at e
      split at e
      · rename_i e1
        split at e
        · rename_i h1
          cases e
          obtain ⟨vs, q1, r1⟩ := S.lstAt e1
          obtain ⟨v, h2, h3⟩ := r1.atI h1
          exact .inl ⟨_, vs, i, v, rfl, rfl, .inl (.inl q1), h2, k.here S h3⟩
        · cases e
      · cases e
    | frz ns =>
      obtain ⟨a1, rfl, f⟩ := rep_frz ra
      simp only [fIx] at e
      split at e
      · rename_i h1
        cases e
        exact .inl ⟨_, _, i, _, rfl, rfl, f.sq, by rw [atI_map, h1]; rfl, k.here S (.int _)⟩
      · cases e
    | _ => cases e
  | _ => cases e
theorem re_ix {ma mb : EX} (ha : RE X a ma) (hb : RE X b mb) (hs : PlainIx b := by exact fun _ _ => rfl) : RE X (.Subscript a b pos) (eBin fIx ma mb) :=
  pe_imp (pe_ix i_ix ha hb hs) fun σ H Q h => bin_run (fun _ _ _ _ q => q) h

/-! ### x[lo:hi] -/
def cutW {α : Type} (xs : List α) (lo hi : Option Int) : List α := (xs.drop (HT.sIx xs.length 0 lo)).take (HT.sIx xs.length xs.length hi - HT.sIx xs.length 0 lo)
theorem Reps.cutW {K : PySem.W.Frag} {μ : Nat → Addr} {L : Nat} {H : Hp} {vs : List V} {ws : List W} {lo hi : Option Int} (r : Reps K μ L H vs ws) : Reps K μ L H (cutV vs lo hi) (Rx.cutW ws lo hi) := by
  unfold cutV Rx.cutW
  rw [r.length]
  exact (r.drop _).take _
def fSl (x : W) (lo hi : Option Int) (st : Sto) : R W := match x with
  | .tup xs => .ok (.tup (cutW xs lo hi)) st
  | .ls n => match st[n]? with
    | some (.lst xs) => .ok (.ls st.length) (st ++ [.lst (cutW xs lo hi)])
    | none => .err
  | .frz ns => .ok (.ls st.length) (st ++ [.lst (cutW (ns.map W.int) lo hi)])
  | _ => .err
def lS' (K : PySem.W.Frag) : V → Option Int → Option Int → Hp → VK → Prop := fun x lo hi H Q => ∃ μ st a w st', Sim K μ st H ∧ Rep K μ st.length H x a ∧ fSl a lo hi st = .ok w st' ∧ KE K μ st.length H w st' Q
theorem s_sl : SlR X (lS' X.K) := sl_imp (sl_list.or sl_tupA) fun x lo hi H Q ⟨μ, st, a, w, st', S, ra, e, k⟩ => by
  cases a with
  | tup xs =>
    obtain ⟨a1, vs, rfl, t1, r1⟩ := rep_tup ra
    cases e
    refine .inr ⟨a1, vs, rfl, t1.sq, fun h => ?_, fun _ p hp => k.tup S r1.cutW hp⟩
    have e2 : cutW xs lo hi = xs := by
      rw [r1.length] at h
      unfold cutW
      rw [h.1, h.2]
      simp
    rw [e2] at k
    exact k.here S (.tup t1 r1)
  | ls n =>
    obtain ⟨rfl, hn⟩ := rep_ls ra
    simp only [fSl] at e
    split at e
    · rename_i e1
      cases e
      obtain ⟨vs, q1, r1⟩ := S.lstAt e1
      exact .inl ⟨_, vs, rfl, .inl (.inl q1), fun p hp => k.new S r1.cutW hp⟩
    · cases e
  | frz ns =>
    obtain ⟨a1, rfl, f⟩ := rep_frz ra
    cases e
    exact .inl ⟨_, _, rfl, f.sq, fun p hp => k.new S (Reps.ints.cutW) hp⟩
  | _ => cases e
/-- an optional part -/
abbrev OX := Env' → Sto → R (Option Int)
def oNone : OX := fun _ st => .ok none st
def oSome (m : EX) : OX := fun env st => (m env st).bind fun x s1 => match x with
  | .int i => .ok (some i) s1
  | _ => .err
def lP' (K : PySem.W.Frag) (m : OX) : TO := fun σ H Q => ∃ μ env st o st', Sim K μ st H ∧ EnvR K μ st.length H env σ ∧ m env st = .ok o st' ∧ ∀ μ' H', Nxt K μ st.length H μ' st'.length H' → Sim K μ' st' H' → Q o H'
abbrev RO (X : Cx) (e : Option Expr) (m : OX) : Prop := PO X e (lP' X.K m)
theorem po_imp {e : Option Expr} {t t' : TO} (h : PO X e t) (i : ∀ σ H Q, t' σ H Q → t σ H Q) : PO X e t' := ⟨fun pins s σ H Q I q => h.run pins s σ H Q I (i σ H Q q)⟩
theorem ro_none : RO X none oNone := po_imp po_none fun σ H Q ⟨μ, env, st, o, st', S, E, h, k⟩ => by
  cases h
  exact k _ _ Nxt.refl S
theorem ro_some {m : EX} (h : RE X e m) : RO X (some e) (oSome m) := po_imp (po_some h) fun σ H Q ⟨μ, env, st, o, st', S, E, h, k⟩ => by
  obtain ⟨x, s1, h1, h2⟩ := R.bind_ok h
  refine ⟨μ, env, st, x, s1, S, E, h1, fun μ1 H1 v N1 S1 r1 => ?_⟩
  cases x with
  | int i =>
    cases h2
    have := rep_int r1; subst this
    exact ⟨i, rfl, k _ _ N1 S1⟩
  | _ => cases h2
def eSl (m : EX) (l h : OX) : EX := fun env st => (m env st).bind fun x s1 => (l env s1).bind fun lo s2 => (h env s2).bind fun hi s3 => fSl x lo hi s3
theorem re_sl {m : EX} {l h : OX} {lo hi : Option Expr} {p2 : Pos} (he : RE X e m) (hl : RO X lo l) (hh : RO X hi h) : RE X (.Subscript e (.Slice lo hi none p2) pos) (eSl m l h) :=
  pe_imp (pe_slice s_sl he hl hh) fun σ H Q ⟨μ, env, st, w, st', S, E, h, k⟩ => by
    obtain ⟨x, s1, h1, h2⟩ := R.bind_ok h
    obtain ⟨lo, s2, h3, h4⟩ := R.bind_ok h2
    obtain ⟨hi, s3, h5, h6⟩ := R.bind_ok h4
    exact ⟨μ, env, st, x, s1, S, E, h1, fun μ1 H1 v N1 S1 r1 => ⟨μ1, env, s1, lo, s2, S1, E.nxt N1, h3, fun μ2 H2 N2 S2 => ⟨μ2, env, s2, hi, s3, S2, (E.nxt N1).nxt N2, h5, fun μ3 H3 N3 S3 =>
      ⟨μ3, s3, x, w, st', S3, (r1.nxt N2).nxt N3, h6, k.mono ((N1.trans N2).trans N3)⟩⟩⟩⟩

/-! ### built-in functions -/
def f1 (g : W → Sto → R W) : FX := fun ws st => match ws with
  | [a] => g a st
  | _ => .err
def f2 (g : W → W → Sto → R W) : FX := fun ws st => match ws with
  | [a, b] => g a b st
  | _ => .err
theorem f1_run {g : W → Sto → R W} {K : PySem.W.Frag} {vs : List V} {H : Hp} {Q : VK} (h : lC K (f1 g) vs H Q) : ∃ v, vs = [v] ∧ ∃ μ st a w st', Sim K μ st H ∧ Rep K μ st.length H v a ∧ g a st = .ok w st' ∧ KE K μ st.length H w st' Q := by
  obtain ⟨μ, st, ws, w, st', S, r, e, k⟩ := h
  match ws, r, e with
  | [a], .cons r .nil, e => exact ⟨_, rfl, μ, st, a, w, st', S, r, e, k⟩
theorem f2_run {g : W → W → Sto → R W} {K : PySem.W.Frag} {vs : List V} {H : Hp} {Q : VK} (h : lC K (f2 g) vs H Q) : ∃ v u, vs = [v, u] ∧ ∃ μ st a b w st', Sim K μ st H ∧ Rep K μ st.length H v a ∧ Rep K μ st.length H u b ∧ g a b st = .ok w st' ∧ KE K μ st.length H w st' Q := by
  obtain ⟨μ, st, ws, w, st', S, r, e, k⟩ := h
  match ws, r, e with
  | [a, b], .cons r (.cons r' .nil), e => exact ⟨_, _, rfl, μ, st, a, b, w, st', S, r, r', e, k⟩
/-- the items of a list or a tuple as they stand -/
def seqW (st : Sto) : W → Option (List W)
  | .tup xs => some xs
  | .ls n => match st[n]? with
    | some (.lst xs) => some xs
    | none => none
  | .frz ns => some (ns.map W.int)
  | _ => none
theorem seqW_ok {K : PySem.W.Frag} {μ : Nat → Addr} {H : Hp} {st : Sto} {v : V} {w : W} {xs : List W} (S : Sim K μ st H) (r : Rep K μ st.length H v w) (h : seqW st w = some xs) : ∃ a vs, v = .ref a ∧ (SqL K H a vs ∨ Tp K H a vs) ∧ Reps K μ st.length H vs xs := by
  cases w with
  | tup ys =>
    obtain ⟨a, vs, rfl, t, r1⟩ := rep_tup r
    cases h
    exact ⟨a, vs, rfl, .inr t, r1⟩
  | ls n =>
    obtain ⟨rfl, hn⟩ := rep_ls r
    simp only [seqW] at h
    split at h
    · rename_i e1
      cases h
      obtain ⟨vs, q1, r1⟩ := S.lstAt e1
      exact ⟨_, vs, rfl, .inl (.inl (.inl q1)), r1⟩
    · cases h
  | frz ns =>
    obtain ⟨a, rfl, f⟩ := rep_frz r
    cases h
    exact ⟨a, _, rfl, .inl f.sq, Reps.ints⟩
  | _ => cases h
def gLen (a : W) (st : Sto) : R W := match a with
  | .str z => if z.length ≤ 100000 then .ok (.int z.length) st else .err
  | _ => match seqW st a with
    | some xs => .ok (.int xs.length) st
    | none => .err
theorem c_len : CallR X (.builtin "len") (lC X.K (f1 gLen)) := call_imp (call_len_seq.or call_len_str) fun vs H Q h => by
  obtain ⟨v, rfl, μ, st, a, w, st', S, r, e, k⟩ := f1_run h
  have seq : ∀ {xs : List W}, seqW st a = some xs → R.ok (W.int xs.length) st = R.ok w st' → (∃ p ys, [v] = [V.ref p] ∧ (SqL X.K H p ys ∨ SqT X.K H p ys) ∧ Q (.int ys.length) H) := by
    intro xs h1 h2
    cases h2
    obtain ⟨p, ys, rfl, q, r1⟩ := seqW_ok S r h1
    refine ⟨p, ys, rfl, q.imp id Tp.sq, ?_⟩
    rw [r1.length]
    exact k.here S (.int _)
  cases a with
  | str z =>
    have := rep_str r; subst this
    simp only [gLen] at e
    split at e
    · cases e
      exact .inr ⟨z, rfl, line_of (by assumption), k.here S (.int _)⟩
    · cases e
  | _ =>
    refine .inl ?_
    simp only [gLen] at e
    split at e
    · rename_i h1
      exact seq h1 e
    · cases e
def gAbs (a : W) (st : Sto) : R W := match a with
  | .int i => .ok (.int (if i < 0 then -i else i)) st
  | _ => .err
theorem c_abs : CallR X (.builtin "abs") (lC X.K (f1 gAbs)) := call_imp call_abs fun vs H Q h => by
  obtain ⟨v, rfl, μ, st, a, w, st', S, r, e, k⟩ := f1_run h
  cases a with
  | int i =>
    have := rep_int r; subst this
    cases e
    exact ⟨i, rfl, k.here S (.int _)⟩
  | _ => cases e
def gInt (a : W) (st : Sto) : R W := match a with
  | .int i => .ok (.int i) st
  | .bl b => .ok (.int (if b then 1 else 0)) st
  | _ => .err
theorem c_int : CallR X (.type "int") (lC X.K (f1 gInt)) := call_imp call_int1 fun vs H Q h => by
  obtain ⟨v, rfl, μ, st, a, w, st', S, r, e, k⟩ := f1_run h
  cases a with
  | int i =>
    have := rep_int r; subst this
    cases e
    exact .inl ⟨i, rfl, k.here S (.int _)⟩
  | bl i =>
    have := rep_bl r; subst this
    cases e
    exact .inr ⟨i, rfl, k.here S (.int _)⟩
  | _ => cases e
def gMax2 : W → W → Sto → R W
  | .int i, .int j, st => .ok (.int (if j > i then j else i)) st
  | _, _, _ => .err
def gMin2 : W → W → Sto → R W
  | .int i, .int j, st => .ok (.int (if j < i then j else i)) st
  | _, _, _ => .err
/-- the whole numbers of a list -/
def intsW : List W → Option (List Int)
  | [] => some []
  | .int i :: r => match intsW r with
    | some is => some (i :: is)
    | none => none
  | _ => none
theorem intsW_eq : ∀ {ws : List W} {ns : List Int}, intsW ws = some ns → ws = ns.map W.int
  | [], ns, h => by cases h; rfl
  | .int i :: r, ns, h => by
    unfold intsW at h
    split at h
    · rename_i is h1
      cases h
      rw [intsW_eq h1]; rfl
    · cases h
  | .non :: _, _, h => by cases h
  | .bl _ :: _, _, h => by cases h
  | .str _ :: _, _, h => by cases h
  | .ty _ :: _, _, h => by cases h
  | .tup _ :: _, _, h => by cases h
  | .ls _ :: _, _, h => by cases h
  | .frz _ :: _, _, h => by cases h
def blsW : List W → Option (List Bool)
  | [] => some []
  | .bl i :: r => match blsW r with
    | some is => some (i :: is)
    | none => none
  | _ => none
theorem blsW_eq : ∀ {ws : List W} {ns : List Bool}, blsW ws = some ns → ws = ns.map W.bl
  | [], ns, h => by cases h; rfl
  | .bl i :: r, ns, h => by
    unfold blsW at h
    split at h
    · rename_i is h1
      cases h
      rw [blsW_eq h1]; rfl
    · cases h
  | .non :: _, _, h => by cases h
  | .int _ :: _, _, h => by cases h
  | .str _ :: _, _, h => by cases h
  | .ty _ :: _, _, h => by cases h
  | .tup _ :: _, _, h => by cases h
  | .ls _ :: _, _, h => by cases h
  | .frz _ :: _, _, h => by cases h
/-- a list (not a tuple) of whole numbers -/
def lintsW (st : Sto) : W → Option (List Int)
  | .ls n => match st[n]? with
    | some (.lst xs) => intsW xs
    | none => none
  | .frz ns => some ns
  | _ => none
theorem lintsW_ok {K : PySem.W.Frag} {μ : Nat → Addr} {H : Hp} {st : Sto} {v : V} {w : W} {ns : List Int} (S : Sim K μ st H) (r : Rep K μ st.length H v w) (h : lintsW st w = some ns) : ∃ a, v = .ref a ∧ SqL K H a (ns.map V.int) := by
  cases w with
  | ls n =>
    obtain ⟨rfl, hn⟩ := rep_ls r
    simp only [lintsW] at h
    split at h
    · rename_i e1
      obtain ⟨vs, q1, r1⟩ := S.lstAt e1
      rw [intsW_eq h] at r1
      rw [r1.ofInts] at q1
      exact ⟨_, rfl, .inl (.inl q1)⟩
    · cases h
  | frz ns =>
    obtain ⟨a, rfl, f⟩ := rep_frz r
    cases h
    exact ⟨a, rfl, f.sq⟩
  | _ => cases h
def gSumL (a : W) (st : Sto) : R W := match lintsW st a with
  | some ns => .ok (.int ns.sum) st
  | none => .err
def greatest : List Int → Int
  | [] => 0
  | [x] => x
  | x :: r => let y := greatest r; if y < x then x else y
def least : List Int → Int
  | [] => 0
  | [x] => x
  | x :: r => let y := least r; if x < y then x else y
theorem greatest_ok : ∀ {ns : List Int}, ns ≠ [] → greatest ns ∈ ns ∧ ∀ y ∈ ns, y ≤ greatest ns
  | [], h => absurd rfl h
  | [x], _ => ⟨by simp [greatest], fun y hy => by simp [greatest] at hy ⊢; omega⟩
  | x :: z :: r, _ => by
    obtain ⟨h1, h2⟩ := greatest_ok (ns := z :: r) (by simp)
    simp only [greatest]
    split
    · refine ⟨by simp, fun y hy => ?_⟩
      rcases List.mem_cons.mp hy with rfl | hy
      · exact Int.le_refl _
      · have := h2 y hy; omega
    · refine ⟨List.mem_cons_of_mem _ h1, fun y hy => ?_⟩
      rcases List.mem_cons.mp hy with rfl | hy
      · omega
      · exact h2 y hy
theorem least_ok : ∀ {ns : List Int}, ns ≠ [] → least ns ∈ ns ∧ ∀ y ∈ ns, least ns ≤ y
  | [], h => absurd rfl h
  | [x], _ => ⟨by simp [least], fun y hy => by simp [least] at hy ⊢; omega⟩
  | x :: z :: r, _ => by
    obtain ⟨h1, h2⟩ := least_ok (ns := z :: r) (by simp)
    simp only [least]
    split
    · refine ⟨by simp, fun y hy => ?_⟩
      rcases List.mem_cons.mp hy with rfl | hy
      · exact Int.le_refl _
      · have := h2 y hy; omega
    · refine ⟨List.mem_cons_of_mem _ h1, fun y hy => ?_⟩
      rcases List.mem_cons.mp hy with rfl | hy
      · omega
      · exact h2 y hy
def gMaxL (a : W) (st : Sto) : R W := match lintsW st a with
  | some (n :: ns) => .ok (.int (greatest (n :: ns))) st
  | _ => .err
def gMinL (a : W) (st : Sto) : R W := match lintsW st a with
  | some (n :: ns) => .ok (.int (least (n :: ns))) st
  | _ => .err
def fMax : FX := fun ws st => match ws with
  | [a] => gMaxL a st
  | [a, b] => gMax2 a b st
  | _ => .err
def fMin : FX := fun ws st => match ws with
  | [a] => gMinL a st
  | [a, b] => gMin2 a b st
  | _ => .err
theorem c_max {N : List Str} {sc : Scope} (hX : In X N sc) : CallR X (.builtin "max") (lC X.K fMax) := call_imp ((cr_max hX.calm).or (call_max2 hX.calm)) fun vs H Q ⟨μ, st, ws, w, st', S, r, e, k⟩ => by
  match ws, r, e with
  | [a], .cons r .nil, e =>
    refine .inl ?_
    simp only [fMax, gMaxL] at e
    split at e
    · rename_i n ns h1
      cases e
      obtain ⟨p, rfl, q⟩ := lintsW_ok S r h1
      refine ⟨p, n :: ns, rfl, q, by simp, fun m hm hy => ?_⟩
      obtain ⟨g1, g2⟩ := greatest_ok (ns := n :: ns) (by simp)
      have : m = greatest (n :: ns) := by
        have a1 := hy _ g1
        have a2 := g2 _ hm
        omega
      subst this
      exact k.here S (.int _)
    · cases e
  | [a, b], .cons r (.cons r' .nil), e =>
    refine .inr ?_
    cases a with
    | int i =>
      cases b with
      | int j =>
        have := rep_int r; subst this
        have := rep_int r'; subst this
        cases e
        exact ⟨i, j, rfl, k.here S (.int _)⟩
      | _ => cases e
    | _ => cases e
theorem c_min {N : List Str} {sc : Scope} (hX : In X N sc) : CallR X (.builtin "min") (lC X.K fMin) := call_imp ((cr_min hX.calm).or (call_min2 hX.calm)) fun vs H Q ⟨μ, st, ws, w, st', S, r, e, k⟩ => by
  match ws, r, e with
  | [a], .cons r .nil, e =>
    refine .inl ?_
    simp only [fMin, gMinL] at e
    split at e
    · rename_i n ns h1
      cases e
      obtain ⟨p, rfl, q⟩ := lintsW_ok S r h1
      refine ⟨p, n :: ns, rfl, q, by simp, fun m hm hy => ?_⟩
      obtain ⟨g1, g2⟩ := least_ok (ns := n :: ns) (by simp)
      have : m = least (n :: ns) := by
        have a1 := hy _ g1
        have a2 := g2 _ hm
        omega
      subst this
      exact k.here S (.int _)
    · cases e
  | [a, b], .cons r (.cons r' .nil), e =>
    refine .inr ?_
    cases a with
    | int i =>
      cases b with
      | int j =>
        have := rep_int r; subst this
        have := rep_int r'; subst this
        cases e
        exact ⟨i, j, rfl, k.here S (.int _)⟩
      | _ => cases e
    | _ => cases e
def lblsW (st : Sto) : W → Option (List Bool)
  | .ls n => match st[n]? with
    | some (.lst xs) => blsW xs
    | none => none
  | _ => none
theorem lblsW_ok {K : PySem.W.Frag} {μ : Nat → Addr} {H : Hp} {st : Sto} {v : V} {w : W} {ns : List Bool} (S : Sim K μ st H) (r : Rep K μ st.length H v w) (h : lblsW st w = some ns) : ∃ a, v = .ref a ∧ SqL K H a (ns.map V.bl) := by
  cases w with
  | ls n =>
    obtain ⟨rfl, hn⟩ := rep_ls r
    simp only [lblsW] at h
    split at h
    · rename_i e1
      obtain ⟨vs, q1, r1⟩ := S.lstAt e1
      rw [blsW_eq h] at r1
      rw [r1.ofBls] at q1
      exact ⟨_, rfl, .inl (.inl q1)⟩
    · cases h
  | _ => cases h
def gAll (a : W) (st : Sto) : R W := match lblsW st a with
  | some ns => .ok (.bl (ns.all id)) st
  | none => .err
def gAny (a : W) (st : Sto) : R W := match lblsW st a with
  | some ns => .ok (.bl (ns.any id)) st
  | none => .err
theorem c_all {N : List Str} {sc : Scope} (hX : In X N sc) : CallR X (.builtin "all") (lC X.K (f1 gAll)) := call_imp (cr_all hX.calm) fun vs H Q h => by
  obtain ⟨v, rfl, μ, st, a, w, st', S, r, e, k⟩ := f1_run h
  unfold gAll at e
  split at e
  · rename_i h1
    cases e
    obtain ⟨p, rfl, q⟩ := lblsW_ok S r h1
    exact ⟨p, _, rfl, q, k.here S (.bl _)⟩
  · cases e
theorem c_any {N : List Str} {sc : Scope} (hX : In X N sc) : CallR X (.builtin "any") (lC X.K (f1 gAny)) := call_imp (cr_any hX.calm) fun vs H Q h => by
  obtain ⟨v, rfl, μ, st, a, w, st', S, r, e, k⟩ := f1_run h
  unfold gAny at e
  split at e
  · rename_i h1
    cases e
    obtain ⟨p, rfl, q⟩ := lblsW_ok S r h1
    exact ⟨p, _, rfl, q, k.here S (.bl _)⟩
  · cases e
def gTuple (a : W) (st : Sto) : R W := match seqW st a with
  | some xs => .ok (.tup xs) st
  | none => .err
theorem c_tuple : CallR X (.type "tuple") (lC X.K (f1 gTuple)) := call_imp call_tuple_of fun vs H Q h => by
  obtain ⟨v, rfl, μ, st, a, w, st', S, r, e, k⟩ := f1_run h
  unfold gTuple at e
  split at e
  · rename_i h1
    cases e
    obtain ⟨p, ys, rfl, q, r1⟩ := seqW_ok S r h1
    refine ⟨p, ys, rfl, ?_⟩
    rcases q with q | q
    · exact .inl ⟨q, fun l hl => k.tup S r1 hl⟩
    · exact .inr ⟨q.sq, k.here S (.tup q r1)⟩
  · cases e
def gList (a : W) (st : Sto) : R W := match seqW st a with
  | some xs => .ok (.ls st.length) (st ++ [.lst xs])
  | none => .err
theorem c_list : CallR X (.type "list") (lC X.K (f1 gList)) := call_imp call_list_of fun vs H Q h => by
  obtain ⟨v, rfl, μ, st, a, w, st', S, r, e, k⟩ := f1_run h
  unfold gList at e
  split at e
  · rename_i h1
    cases e
    obtain ⟨p, ys, rfl, q, r1⟩ := seqW_ok S r h1
    exact ⟨p, ys, rfl, q.imp id Tp.sq, fun l hl => k.new S r1 hl⟩
  · cases e
def gGcd : W → W → Sto → R W
  | .int i, .int j, st => .ok (.int ((Nat.gcd i.natAbs j.natAbs : Nat) : Int)) st
  | _, _, _ => .err
theorem c_gcd : CallR X (.builtin "math.gcd") (lC X.K (f2 gGcd)) := call_imp cr_gcd fun vs H Q h => by
  obtain ⟨v, u, rfl, μ, st, a, b, w, st', S, ra, rb, e, k⟩ := f2_run h
  cases a with
  | int i =>
    cases b with
    | int j =>
      have := rep_int ra; subst this
      have := rep_int rb; subst this
      cases e
      exact ⟨i, j, rfl, k.here S (.int _)⟩
    | _ => cases e
  | _ => cases e

/-! ### isinstance -/
def tyN : W → Option String
  | .non => some "NoneType"
  | .bl _ => some "bool"
  | .int _ => some "int"
  | .str _ => some "str"
  | .tup _ => some "tuple"
  | .ls _ => some "list"
  | .frz _ => some "list"
  | .ty _ => none
def isTyB (t n : String) : Bool := (t == n) || (t == "bool" && n == "int")
def plainTy (n : String) : Bool := n == "int" || n == "bool" || n == "str" || n == "tuple" || n == "list"
def isW (t : String) : W → Option Bool
  | .ty n => if plainTy n = true then some (isTyB t n) else none
  | .tup [.ty n, .ty m] => if plainTy n = true ∧ plainTy m = true then some (isTyB t n || isTyB t m) else none
  | _ => none
def gIsi : W → W → Sto → R W := fun a b st => match tyN a with
  | some t => match isW t b with
    | some k => .ok (.bl k) st
    | none => .err
  | none => .err
theorem kitB_ok {t n : String} {K : PySem.W.Frag} (ht : t = "NoneType" ∨ t = "bool" ∨ t = "int" ∨ t = "str" ∨ t = "tuple" ∨ t = "list") (hn : plainTy n = true) : PySem.W.kitOne K (.type t) (.type n) = some (isTyB t n) := by
  have hn' : n = "int" ∨ n = "bool" ∨ n = "str" ∨ n = "tuple" ∨ n = "list" := by
    unfold plainTy at hn
    simp only [Bool.or_eq_true, beq_iff_eq] at hn
    rcases hn with (((h | h) | h) | h) | h <;> simp [h]
  rcases ht with rfl | rfl | rfl | rfl | rfl | rfl <;> rcases hn' with rfl | rfl | rfl | rfl | rfl <;> exact kit_ty (by decide +kernel)
theorem tyN_ok {K : PySem.W.Frag} {μ : Nat → Addr} {H : Hp} {st : Sto} {v : V} {w : W} {t : String} (S : Sim K μ st H) (r : Rep K μ st.length H v w) (h : tyN w = some t) :
    TyX K H v (.type t) ∧ (t = "NoneType" ∨ t = "bool" ∨ t = "int" ∨ t = "str" ∨ t = "tuple" ∨ t = "list") := by
  cases r with
  | non => cases h; exact ⟨.base .non, by simp⟩
  | bl b => cases h; exact ⟨.base (.bl _), by simp⟩
  | int i => cases h; exact ⟨.base (.int _), by simp⟩
  | str x => cases h; exact ⟨.base (.str _), by simp⟩
  | ty n => cases h
  | tup t rs =>
    cases h
    refine ⟨?_, by simp⟩
    rcases t with t | ⟨o, its, n, e1, e2, _⟩
    · exact .base (.tup t)
    · exact .kTuple e1 e2
  | ls hn =>
    cases h
    refine ⟨?_, by simp⟩
    obtain ⟨xs, q⟩ := S.isL hn
    exact .base (.lst q)
  | frz f =>
    cases h
    refine ⟨?_, by simp⟩
    rcases f with ⟨o, f⟩ | ⟨o, its, n, e1, e2, _⟩
    · exact .base (.frz f)
    · exact .kList e1 e2
theorem kit2 {K : PySem.W.Frag} {t n m : String} (hT : t = "NoneType" ∨ t = "bool" ∨ t = "int" ∨ t = "str" ∨ t = "tuple" ∨ t = "list") (h1 : plainTy n = true) (h2 : plainTy m = true) :
    PySem.W.kitAny K (.type t) [.type n, .type m] = some (isTyB t n || isTyB t m) := by
  have a1 := kitB_ok (K := K) hT h1
  have a2 := kitB_ok (K := K) hT h2
  generalize isTyB t n = b1 at a1 ⊢
  generalize isTyB t m = b2 at a2 ⊢
  refine kitAny_cons (b := b1) a1 (fun e1 => ?_) (fun e1 => by rw [e1]; rfl)
  refine kitAny_cons (b := b2) a2 (fun e2 => by rw [e1, e2]; exact kitAny_nil) (fun e2 => by rw [e2]; simp)
theorem isW_run {t : String} {b : W} {k : Bool} (h : isW t b = some k) : (∃ n, b = .ty n ∧ plainTy n = true ∧ k = isTyB t n) ∨ ∃ n m, b = .tup [.ty n, .ty m] ∧ plainTy n = true ∧ plainTy m = true ∧ k = (isTyB t n || isTyB t m) := by
  unfold isW at h
  split at h
  · split at h
    · rename_i hn
      cases h
      exact .inl ⟨_, rfl, hn, rfl⟩
    · cases h
  · split at h
    · rename_i hn
      cases h
      exact .inr ⟨_, _, rfl, hn.1, hn.2, rfl⟩
    · cases h
  · cases h
theorem tys_of {K : PySem.W.Frag} {μ : Nat → Addr} {L : Nat} {H : Hp} {vs : List V} {n m : String} (r : Reps K μ L H vs [.ty n, .ty m]) : vs = [.ty n, .ty m] := by
  match vs, r with
  | [x, y], .cons r1 (.cons r2 .nil) => rw [rep_ty r1, rep_ty r2]
theorem its_of {its : List Value} {n m : String} (r : Vals [.ty n, .ty m] its) : its = [.type n, .type m] := by
  match its, r with
  | [x, y], .cons r1 (.cons r2 .nil) => rw [show x = Value.type n from r1, show y = Value.type m from r2]
theorem c_isi : CallR X (.builtin "isinstance") (lC X.K (f2 gIsi)) := call_imp ((call_isi.or call_isiT).or call_isiK) fun vs H Q h => by
  obtain ⟨v, u, rfl, μ, st, a, b, w, st', S, ra, rb, e, k⟩ := f2_run h
  unfold gIsi at e
  split at e
  · rename_i t ht
    split at e
    · rename_i kk hk
      cases e
      obtain ⟨T, hT⟩ := tyN_ok S ra ht
      have q : Q (.bl kk) H := k.here S (.bl _)
      clear k
      rcases isW_run hk with ⟨n, rfl, hn, rfl⟩ | ⟨n, m, rfl, hn, hm, rfl⟩
      · have := rep_ty rb; subst this
        refine Or.inl (Or.inl ?_)
        exact ⟨v, .ty n, .type t, .type n, isTyB t n, rfl, ClsV.ty n, T, kitB_ok hT hn, q⟩
      · obtain ⟨tp, cs, rfl, tt, rs⟩ := rep_tup rb
        have hcs := tys_of rs
        subst hcs
        rcases tt with tt | ⟨o, its, n', e1, e2, e3, e4, e5⟩
        · refine Or.inl (Or.inr ?_)
          exact ⟨v, tp, [.ty n, .ty m], .type t, [.type n, .type m], isTyB t n || isTyB t m, rfl, tt, .cons (ClsV.ty n) (.cons (ClsV.ty m) .nil), T, kit2 hT hn hm, q⟩
        · refine Or.inr ?_
          refine ⟨v, tp, o.dict, [.type n, .type m], n', o.slots, .type t, isTyB t n || isTyB t m, rfl, ?_, T, kit2 hT hn hm, q⟩
          have hi : its = [Value.type n, Value.type m].toArray := by rw [← its_of e5]
          rw [e1]
          obtain ⟨c1, c2, c3, c4⟩ := o
          simp only at e2 e3 ⊢
          subst e2 e3
          rw [hi]
    · cases e
  · cases e

/-! ### methods of lists -/
def eMth (f : W → FX) (m : EX) (n : AX) : EX := fun env st => (m env st).bind fun x s1 => (n env s1).bind fun xs s2 => f x xs s2
def mAppend : W → FX := fun x ws st => match x, ws with
  | .ls n, [w] => match st[n]? with
    | some (.lst xs) => if xs.length < 100000 then .ok .non (st.set n (.lst (xs ++ [w]))) else .err
    | none => .err
  | _, _ => .err
def mExtend : W → FX := fun x ws st => match x, ws with
  | .ls n, [.ls m] => match st[n]?, st[m]? with
    | some (.lst xs), some (.lst ys) => if xs.length + ys.length ≤ 100000 then .ok .non (st.set n (.lst (xs ++ ys))) else .err
    | _, _ => .err
  | _, _ => .err
def mPop : W → FX := fun x ws st => match x, ws with
  | .ls n, [] => match st[n]? with
    | some (.lst xs) => match xs[xs.length - 1]? with
      | some w => .ok w (st.set n (.lst xs.dropLast))
      | none => .err
    | none => .err
  | .ls n, [.int i] => match st[n]? with
    | some (.lst xs) => match ixN xs.length i with
      | some j => match xs[j]? with
        | some w => if -1000000 ≤ i ∧ i ≤ 1000000 then .ok w (st.set n (.lst (xs.eraseIdx j))) else .err
        | none => .err
      | none => .err
    | none => .err
  | _, _ => .err
theorem Reps.dropLast {K : PySem.W.Frag} {μ : Nat → Addr} {L : Nat} {H : Hp} {vs : List V} {ws : List W} (r : Reps K μ L H vs ws) : Reps K μ L H vs.dropLast ws.dropLast := by
  rw [List.dropLast_eq_take, List.dropLast_eq_take, r.length]
  exact r.take _
theorem Reps.eraseIdx {K : PySem.W.Frag} {μ : Nat → Addr} {L : Nat} {H : Hp} {vs : List V} {ws : List W} (r : Reps K μ L H vs ws) (j : Nat) : Reps K μ L H (vs.eraseIdx j) (ws.eraseIdx j) := by
  rw [List.eraseIdx_eq_take_drop_succ, List.eraseIdx_eq_take_drop_succ]
  exact (r.take _).append (r.drop _)
theorem m_append : MtR X "list.append" (lM X.K mAppend) := mt_imp mt_append fun x vs H Q ⟨μ, st, a, ws, w, st', S, ra, rs, e, k⟩ => by
  cases a with
  | ls n =>
    obtain ⟨rfl, hn⟩ := rep_ls ra
    match ws, rs, e with
    | [y], .cons r .nil, e =>
      simp only [mAppend] at e
      split at e
      · rename_i xs e1
        split at e
        · rename_i hz
          cases e
          obtain ⟨us, q1, r1⟩ := S.lstAt e1
          exact ⟨_, us, _, rfl, rfl, q1, by rw [r1.length]; exact line_lt hz, k.put S e1 q1 (r1.append (.cons r .nil)) .non⟩
        · cases e
      · cases e
  | _ => cases e
theorem m_extend : MtR X "list.extend" (lM X.K mExtend) := mt_imp mt_extend fun x vs H Q ⟨μ, st, a, ws, w, st', S, ra, rs, e, k⟩ => by
  cases a with
  | ls n =>
    obtain ⟨rfl, hn⟩ := rep_ls ra
    match ws, rs, e with
    | [.ls m], .cons r .nil, e =>
      obtain ⟨rfl, hm⟩ := rep_ls r
      simp only [mExtend] at e
      split at e
      · rename_i xs ys e1 e2
        split at e
        · rename_i hz
          cases e
          obtain ⟨us, q1, r1⟩ := S.lstAt e1
          obtain ⟨zs, q2, r2⟩ := S.lstAt e2
          exact ⟨_, _, us, zs, rfl, rfl, q1, q2, by rw [r1.length, r2.length]; exact line_of hz, k.put S e1 q1 (r1.append r2) .non⟩
        · cases e
      · cases e
  | _ => cases e
theorem m_pop : MtR X "list.pop" (lM X.K mPop) := mt_imp (MtR.or mt_pop mt_popAt) fun x vs H Q ⟨μ, st, a, ws, w, st', S, ra, rs, e, k⟩ => by
  cases a with
  | ls n =>
    obtain ⟨rfl, hn⟩ := rep_ls ra
    match ws, rs, e with
    | [], .nil, e =>
      simp only [mPop] at e
      split at e
      · rename_i xs e1
        split at e
        · rename_i h1
          cases e
          obtain ⟨us, q1, r1⟩ := S.lstAt e1
          obtain ⟨v, h2, h3⟩ := r1.get h1
          exact .inl ⟨_, us, v, rfl, rfl, q1, by rw [r1.length]; exact h2, k.put S e1 q1 r1.dropLast (h3.nxt (Nxt.put hn q1))⟩
        · cases e
      · cases e
    | [.int i], .cons r .nil, e =>
      have := rep_int r; subst this
      simp only [mPop] at e
      split at e
      · rename_i xs e1
        split at e
        · rename_i j hj
          split at e
          · rename_i h1
            split at e
            · rename_i hz
              cases e
              obtain ⟨us, q1, r1⟩ := S.lstAt e1
              obtain ⟨v, h2, h3⟩ := r1.get h1
              obtain ⟨g1, _⟩ := ixN_seq hj
              exact .inr ⟨_, us, i, j, v, rfl, rfl, q1, by omega, by omega, by rw [r1.length]; exact g1, h2, k.put S e1 q1 (r1.eraseIdx j) (h3.nxt (Nxt.put hn q1))⟩
            · cases e
          · cases e
        · cases e
      · cases e
  | _ => cases e
theorem ty_ls {K : PySem.W.Frag} {μ : Nat → Addr} {H : Hp} {st : Sto} {v : V} {n : Nat} (S : Sim K μ st H) (r : Rep K μ st.length H v (.ls n)) : tyV K "list" v H := by
  obtain ⟨rfl, hn⟩ := rep_ls r
  obtain ⟨xs, q⟩ := S.isL hn
  exact .inl ⟨rfl, xs, .inl (.inl q)⟩
/-- the receiver is a list -/
def onLs (f : W → FX) : W → FX := fun x ws st => match x with
  | .ls n => f (.ls n) ws st
  | _ => .err
theorem mth_run {f : W → FX} {m : EX} {n : AX} {σ : L2.St} {H : Hp} {Q : VK} (h : lE X.K (eMth f m n) σ H Q) (hf : ∀ x ws st w st', f x ws st = .ok w st' → ∃ k, x = .ls k) :
    tBM X.K "list" (lM X.K f) (lE X.K m) (lA X.K n) σ H Q := by
  obtain ⟨μ, env, st, w, st', S, E, h, k⟩ := h
  obtain ⟨x, s1, h1, h2⟩ := R.bind_ok h
  obtain ⟨xs, s2, h3, h4⟩ := R.bind_ok h2
  obtain ⟨j, rfl⟩ := hf _ _ _ _ _ h4
  exact ⟨μ, env, st, _, s1, S, E, h1, fun μ1 H1 v N1 S1 r1 => ⟨ty_ls S1 r1, μ1, env, s1, xs, s2, S1, E.nxt N1, h3, fun μ2 H2 vs N2 S2 r2 => ⟨μ2, s2, _, xs, w, st', S2, r1.nxt N2, r2, h4, k.mono (N1.trans N2)⟩⟩⟩
theorem mAppend_ls {x : W} {ws : List W} {st : Sto} {w : W} {st' : Sto} (h : mAppend x ws st = .ok w st') : ∃ k, x = .ls k := by
  cases x with
  | ls k => exact ⟨k, rfl⟩
  | _ => cases h
theorem mExtend_ls {x : W} {ws : List W} {st : Sto} {w : W} {st' : Sto} (h : mExtend x ws st = .ok w st') : ∃ k, x = .ls k := by
  cases x with
  | ls k => exact ⟨k, rfl⟩
  | _ => cases h
theorem mPop_ls {x : W} {ws : List W} {st : Sto} {w : W} {st' : Sto} (h : mPop x ws st = .ok w st') : ∃ k, x = .ls k := by
  cases x with
  | ls k => exact ⟨k, rfl⟩
  | _ => cases h
variable {es : List Expr} {apos cpos : Pos}
theorem re_append {m : EX} {n : AX} (ho : RE X a m) (ha : RA X (b :: es) n)
    (hbase : attributeBase a "append" X.env (eval a X.env) = eval a X.env := by rfl)
    (hfew : ((backTo cpos (starEach (b :: es) X.env)).all (fun x => !x.1) && (backToKw cpos (keywordEach [] X.env)).all (fun x => x.1.isSome)
      && decide ((b :: es).length + ([] : List Keyword).length + (if ([] : List Keyword).isEmpty then 0 else 1) < 30)) = true := by rfl)
    (hline : (apos.endLine == cpos.line) = true := by rfl) (hs : starEach (b :: es) X.env = (false, eval b X.env) :: starEach es X.env := by rfl) (hplain : (backTo cpos (starEach es X.env)).any (·.1) = false := by rfl) :
    RE X (.Call (.Attribute a "append" apos) (b :: es) [] cpos) (eMth mAppend m n) :=
  pe_imp (pe_bm PySem.F.plainAttrs_list PySem.F.slot_list_append PySem.F.type_list_append m_append ho ha hbase hfew hline hs hplain) fun σ H Q h => mth_run h fun _ _ _ _ _ => mAppend_ls
theorem re_extend {m : EX} {n : AX} (ho : RE X a m) (ha : RA X (b :: es) n)
    (hbase : attributeBase a "extend" X.env (eval a X.env) = eval a X.env := by rfl)
    (hfew : ((backTo cpos (starEach (b :: es) X.env)).all (fun x => !x.1) && (backToKw cpos (keywordEach [] X.env)).all (fun x => x.1.isSome)
      && decide ((b :: es).length + ([] : List Keyword).length + (if ([] : List Keyword).isEmpty then 0 else 1) < 30)) = true := by rfl)
    (hline : (apos.endLine == cpos.line) = true := by rfl) (hs : starEach (b :: es) X.env = (false, eval b X.env) :: starEach es X.env := by rfl) (hplain : (backTo cpos (starEach es X.env)).any (·.1) = false := by rfl) :
    RE X (.Call (.Attribute a "extend" apos) (b :: es) [] cpos) (eMth mExtend m n) :=
  pe_imp (pe_bm PySem.F.plainAttrs_list PySem.F.slot_list_extend PySem.F.type_list_extend m_extend ho ha hbase hfew hline hs hplain) fun σ H Q h => mth_run h fun _ _ _ _ _ => mExtend_ls
theorem re_popAt {m : EX} {n : AX} (ho : RE X a m) (ha : RA X (b :: es) n)
    (hbase : attributeBase a "pop" X.env (eval a X.env) = eval a X.env := by rfl)
    (hfew : ((backTo cpos (starEach (b :: es) X.env)).all (fun x => !x.1) && (backToKw cpos (keywordEach [] X.env)).all (fun x => x.1.isSome)
      && decide ((b :: es).length + ([] : List Keyword).length + (if ([] : List Keyword).isEmpty then 0 else 1) < 30)) = true := by rfl)
    (hline : (apos.endLine == cpos.line) = true := by rfl) (hs : starEach (b :: es) X.env = (false, eval b X.env) :: starEach es X.env := by rfl) (hplain : (backTo cpos (starEach es X.env)).any (·.1) = false := by rfl) :
    RE X (.Call (.Attribute a "pop" apos) (b :: es) [] cpos) (eMth mPop m n) :=
  pe_imp (pe_bm PySem.F.plainAttrs_list PySem.F.slot_list_pop PySem.F.type_list_pop m_pop ho ha hbase hfew hline hs hplain) fun σ H Q h => mth_run h fun _ _ _ _ _ => mPop_ls
theorem re_pop {m : EX} (ho : RE X a m) (hbase : attributeBase a "pop" X.env (eval a X.env) = eval a X.env := by rfl) (hline : (apos.endLine == cpos.line) = true := by rfl) :
    RE X (.Call (.Attribute a "pop" apos) [] [] cpos) (eMth mPop m aNil) :=
  pe_imp (pe_bm0 PySem.F.plainAttrs_list PySem.F.slot_list_pop PySem.F.type_list_pop m_pop ho hbase hline) fun σ H Q ⟨μ, env, st, w, st', S, E, h, k⟩ => by
    obtain ⟨x, s1, h1, h2⟩ := R.bind_ok h
    obtain ⟨xs, s2, h3, h4⟩ := R.bind_ok h2
    cases h3
    obtain ⟨j, rfl⟩ := mPop_ls h4
    exact ⟨μ, env, st, _, s1, S, E, h1, fun μ1 H1 v N1 S1 r1 => ⟨ty_ls S1 r1, μ1, s1, _, [], w, st', S1, r1, .nil, h4, k.mono N1⟩⟩

/-! ### o[i] = v -/
def fSet : W → W → W → Sto → R Unit := fun o i v st => match o, i with
  | .ls n, .int k => match st[n]? with
    | some (.lst xs) => match ixN xs.length k with
      | some j => .ok () (st.set n (.lst (xs.set j v)))
      | none => .err
    | none => .err
  | _, _ => .err
def lSet (K : PySem.W.Frag) : TSet := fun o i v H Q => ∃ μ st a b w st', Sim K μ st H ∧ Rep K μ st.length H o a ∧ Rep K μ st.length H i b ∧ Rep K μ st.length H v w ∧ fSet a b w st = .ok () st' ∧ ∀ H', Nxt K μ st.length H μ st'.length H' → Sim K μ st' H' → Q H'
theorem s_set : PSet X (lSet X.K) := fun pins s σ H o i v ov iv u Q I ro ri rv ⟨μ, st, a, b, w, st', S, ra, rb, rw', e, k⟩ => by
  refine set_list pins s σ H o i v ov iv u Q I ro ri rv ?_
  cases a with
  | ls n =>
    obtain ⟨rfl, hn⟩ := rep_ls ra
    cases b with
    | int kk =>
      have := rep_int rb; subst this
      simp only [fSet] at e
      split at e
      · rename_i xs e1
        split at e
        · rename_i j hj
          cases e
          obtain ⟨us, q1, r1⟩ := S.lstAt e1
          refine ⟨_, us, kk, j, rfl, rfl, q1, by rw [r1.length]; exact hj, ?_⟩
          refine k _ ?_ (S.put e1 q1 (r1.set rw' j))
          rw [List.length_set]
          exact Nxt.put hn q1
        · cases e
      · cases e
    | _ => cases e
  | _ => cases e
end
end Rx

/-! RxE: targets, what is walked, statements, loops, comprehensions. -/
namespace Rx
open PySem PySem.Spec PyProof.Rows L2

section
variable {X : Cx} {e a b c tg : Expr} {pos : Pos}

/-! ### targets -/
/-- a name; several names -/
inductive Pat where
  | nm (i : Nat) | tp (is : List Nat)
def setAll : List Nat → List W → Env' → Option Env'
  | [], [], env => some env
  | i :: is, w :: ws, env => setAll is ws (env.set i (some w))
  | _, _, _ => none
def Pat.set (p : Pat) (w : W) (st : Sto) (env : Env') : Option Env' := match p with
  | .nm i => some (env.set i (some w))
  | .tp is => match seqW st w with
    | some ws => setAll is ws env
    | none => none
def Pat.slots : Pat → List Nat
  | .nm i => [i]
  | .tp is => is
def gNms : List Nat → TGs
  | [] => gNil
  | i :: is => gCons (gName i) (gNms is)
def gPat (K : PySem.W.Frag) : Pat → TG
  | .nm i => gName i
  | .tp is => fun v σ H Q => gTup K is.length (gNms is) v σ H Q ∨ gUnl K is.length (gNms is) v σ H Q
abbrev RG (X : Cx) (e : Expr) (p : Pat) : Prop := PG X e (gPat X.K p)
theorem rg_name {i : Nat} {x : Str} (h : Lo X i x) : RG X (.Name x pos) (.nm i) := pg_name h.2.2.2 h.1 h.2.1 h.2.2.1
theorem rgs_nil : PGs X [] (gNms []) := pgs_nil
theorem rgs_cons {i : Nat} {is : List Nat} {x : Str} {es : List Expr} (h : Lo X i x) (h2 : PGs X es (gNms is))
    (hs : (assignEach (.Name x pos :: es) X.env).map (·.2) = assign (.Name x pos) X.env :: (assignEach es X.env).map (·.2) := by rfl) : PGs X (.Name x pos :: es) (gNms (i :: is)) := pgs_cons (pg_name h.2.2.2 h.1 h.2.1 h.2.2.1) h2 hs
theorem rg_tup {N : List Str} {sc : Scope} (hX : In X N sc) {es : List Expr} {k : Nat} {is : List Nat} (h : PGs X es (gNms is)) (hn : (assignEach es X.env).length = is.length := by rfl) (hst : (assignEach es X.env).findIdx? (·.1) = none := by rfl) : RG X (.Tuple es k pos) (.tp is) :=
  ⟨fun pins s σ H v u Q I r q => by
    rcases q with q | q
    · exact (pg_tup (k := k) (pos := pos) hX.calm h hn hst).run pins s σ H v u Q I r q
    · exact (pg_unl (k := k) (pos := pos) hX.calm h hn hst).run pins s σ H v u Q I r q⟩
/-- forgetting what stands in slots -/
def wipeE (env : Env') : List Nat → Env'
  | [] => env
  | v :: vs => (wipeE env vs).set v none
theorem wipeE_length (env : Env') : ∀ vs : List Nat, (wipeE env vs).length = env.length
  | [] => rfl
  | v :: vs => by unfold wipeE; rw [List.length_set, wipeE_length env vs]
theorem EnvR.wipe {K : PySem.W.Frag} {μ : Nat → Addr} {L : Nat} {H : Hp} {env : Env'} {σ : L2.St} (E : EnvR K μ L H env σ) : ∀ vs : List Nat, EnvR K μ L H (wipeE env vs) (L2.wipe σ vs)
  | [] => E
  | v :: vs => by
    have ih := E.wipe vs
    refine ⟨by unfold wipeE L2.wipe; rw [List.length_set, List.length_set]; exact ih.len, fun i w h => ?_⟩
    unfold wipeE at h
    unfold L2.wipe
    by_cases hi : v = i
    · subst hi
      by_cases hv : v < (wipeE env vs).length
      · rw [List.getElem?_set_self hv] at h; cases h
      · rw [List.getElem?_eq_none (by simpa using hv)] at h; cases h
    · rw [List.getElem?_set_ne hi] at h ⊢
      exact ih.at_ i w h
theorem wipe_set {i : Nat} {v : V} : ∀ {vs : List Nat} {σ : L2.St}, i ∈ vs → L2.wipe (σ.set i (some v)) vs = L2.wipe σ vs
  | [], _, h => by cases h
  | j :: vs, σ, h => by
    unfold L2.wipe
    by_cases hi : i ∈ vs
    · rw [wipe_set hi]
    · have hj : i = j := by
        rcases List.mem_cons.mp h with h | h
        · exact h
        · exact absurd h hi
      subst hj
      apply List.ext_getElem?
      intro k
      by_cases hk : i = k
      · subst hk
        by_cases hl : i < (L2.wipe σ vs).length
        · rw [List.getElem?_set_self hl, List.getElem?_set_self (by rw [wipe_length, List.length_set]; rw [wipe_length] at hl; exact hl)]
        · rw [List.getElem?_eq_none (by rw [List.length_set, wipe_length, List.length_set]; rw [wipe_length] at hl; omega), List.getElem?_eq_none (by rw [List.length_set]; omega)]
      · rw [List.getElem?_set_ne hk, List.getElem?_set_ne hk]
        by_cases hkv : k ∈ vs
        · have none_of : ∀ {τ : L2.St}, (L2.wipe τ vs)[k]? = if k < τ.length then some none else none := by
            intro τ
            have hl := wipe_length τ vs
            by_cases hk2 : k < τ.length
            · rw [if_pos hk2]
              have h1 : k < (L2.wipe τ vs).length := by rw [hl]; exact hk2
              rw [List.getElem?_eq_getElem h1]
              cases e : (L2.wipe τ vs)[k] with
              | none => rfl
              | some y =>
                have := (wipe_some (σ := τ) (i := k) (x := y) (vs := vs) (by rw [List.getElem?_eq_getElem h1, e])).2
                exact absurd hkv this
            · rw [if_neg hk2, List.getElem?_eq_none (by rw [hl]; omega)]
          rw [none_of, none_of, List.length_set]
        · rw [wipe_out hkv, wipe_out hkv, List.getElem?_set_ne hk]
theorem gNms_run {K : PySem.W.Frag} {μ : Nat → Addr} {L : Nat} {H : Hp} {Q : L2.St → Hp → Prop} {vs0 : List Nat} : ∀ {is : List Nat} {vs : List V} {ws : List W} {env env' : Env'} {σ : L2.St}, EnvR K μ L H env σ → Reps K μ L H vs ws → setAll is ws env = some env' →
    (∀ σ', EnvR K μ L H env' σ' → ((∀ i ∈ is, i ∈ vs0) → L2.wipe σ' vs0 = L2.wipe σ vs0) → Q σ' H) → gNms is vs σ H Q
  | [], _, _, env, env', σ, E, r, h, k => by
    cases r with
    | nil => cases h; exact ⟨rfl, k σ E fun _ => rfl⟩
    | cons _ _ => cases h
  | i :: is, _, _, env, env', σ, E, r, h, k => by
    cases r with
    | nil => cases h
    | cons r rs =>
      refine ⟨_, _, rfl, ?_⟩
      show gNms is _ (σ.set i (some _)) H Q
      refine gNms_run (vs0 := vs0) (E.set r i) rs h fun σ' E' hw => k σ' E' fun hm => ?_
      rw [hw fun j hj => hm j (List.mem_cons_of_mem _ hj)]
      exact wipe_set (hm i List.mem_cons_self)
theorem setAll_len : ∀ {is : List Nat} {ws : List W} {env env' : Env'}, setAll is ws env = some env' → ws.length = is.length
  | [], [], _, _, _ => rfl
  | [], _ :: _, _, _, h => by cases h
  | _ :: _, [], _, _, h => by cases h
  | _ :: is, _ :: ws, _, _, h => by simp [setAll_len (is := is) h]
/-- the target's reading -/
theorem gPat_run {K : PySem.W.Frag} {μ : Nat → Addr} {st : Sto} {H : Hp} {Q : L2.St → Hp → Prop} {vs0 : List Nat} {p : Pat} {v : V} {w : W} {env env' : Env'} {σ : L2.St} (S : Sim K μ st H) (E : EnvR K μ st.length H env σ) (r : Rep K μ st.length H v w) (h : p.set w st env = some env')
    (k : ∀ σ', EnvR K μ st.length H env' σ' → ((∀ i ∈ p.slots, i ∈ vs0) → L2.wipe σ' vs0 = L2.wipe σ vs0) → Q σ' H) : gPat K p v σ H Q := by
  cases p with
  | nm i =>
    cases h
    exact k _ (E.set r i) fun hm => wipe_set (hm i (by simp [Pat.slots]))
  | tp is =>
    unfold Pat.set at h
    simp only [] at h
    split at h
    · rename_i ws h1
      obtain ⟨a, vs, rfl, q, r1⟩ := seqW_ok S r h1
      have hl : vs.length = is.length := by rw [r1.length]; exact setAll_len h
      rcases q with q | q
      · exact .inr ⟨a, vs, rfl, q, hl, gNms_run E r1 h k⟩
      · exact .inl ⟨a, vs, rfl, q.sq, hl, gNms_run E r1 h k⟩
    · cases h

/-! ### what is walked -/
inductive Src where
  | fix (xs : List W) | lv (n : Nat) | en (n : Nat) | zp (n m : Nat)
def lsAt (st : Sto) (n i : Nat) : Option W := match st[n]? with
  | some (.lst xs) => xs[i]?
  | none => none
def Src.at (src : Src) (i : Nat) (st : Sto) : Option W := match src with
  | .fix xs => xs[i]?
  | .lv n => lsAt st n i
  | .en n => match lsAt st n i with
    | some w => some (.tup [.int i, w])
    | none => none
  | .zp n m => match lsAt st n i, lsAt st m i with
    | some w, some u => some (.tup [w, u])
    | _, _ => none
/-- an iterator goes as told -/
def SrcOk (K : PySem.W.Frag) (J : It) (src : Src) (μ : Nat → Addr) (L : Nat) (H : Hp) : Prop := ∀ μ' st' H', Nxw K μ L H μ' st'.length H' → Sim K μ' st' H' → ∀ i, match src.at i st' with
  | none => J.stop i H'
  | some w => J.go i H' ∧ ∀ x H'', J.yld i H' x H'' → Nxt K μ' st'.length H' μ' st'.length H'' ∧ Sim K μ' st' H'' ∧ Rep K μ' st'.length H'' x w
theorem SrcOk.mono {K : PySem.W.Frag} {J : It} {src : Src} {μ μ1 : Nat → Addr} {L L1 : Nat} {H H1 : Hp} (h : SrcOk K J src μ L H) (n : Nxw K μ L H μ1 L1 H1) : SrcOk K J src μ1 L1 H1 := fun μ' st' H' N S => h μ' st' H' (n.trans N) S
abbrev IX := Env' → Sto → R Src
def lI (K : PySem.W.Frag) (m : IX) : TI := fun σ H R => ∃ μ env st src st', Sim K μ st H ∧ EnvR K μ st.length H env σ ∧ m env st = .ok src st' ∧ ∀ J μ' H', Nxt K μ st.length H μ' st'.length H' → Sim K μ' st' H' → SrcOk K J src μ' st'.length H' → R J H'
abbrev RI (X : Cx) (tg iter : Expr) (m : IX) : Prop := PI X tg iter (lI X.K m)
theorem pi_imp {t t' : TI} (h : PI X tg e t) (i : ∀ σ H R, t' σ H R → t σ H R) : PI X tg e t' := ⟨fun pins s σ H R I q => h.run pins s σ H R I (i σ H R q)⟩
/-- by the value: a list or a tuple -/
def iSeq (K : PySem.W.Frag) (tl : TE) : TI := fun σ H R => tl σ H fun x H1 => ∃ a, x = .ref a ∧ ((∃ xs, SqL K H1 a xs) ∧ R (Itl K a) H1 ∨ (∃ xs, SqT K H1 a xs) ∧ R (Itt K a) H1)
theorem pi_seq {l : Expr} {tl : TE} (hl : PE X l tl) : PI X tg l (iSeq X.K tl) := by
  refine ⟨fun pins s σ H R I h => ?_⟩
  refine thn (hl.run pins s σ H _ I h) fun v s1 ⟨x, H1, I1, r1, q1⟩ => ?_
  obtain ⟨a, e, q⟩ := q1
  subst e
  cases r1
  rcases q with ⟨⟨xs, hq⟩, q⟩ | ⟨⟨xs, hq⟩, q⟩
  · obtain ⟨its, rv, p, hz⟩ := I1.list hq
    refine wpAny_pyIter_list p.isList ?_
    refine ⟨s1.heap.objs.size, [s1.heap.objs.size], _, _, H1, rfl, I1.kept (t' := s1.toks) fun b o e => Heap.get?_push_of_some _ e, turn_list a _, ⟨_, Heap.get?_push_size _ rfl, rfl, rfl⟩, fun b hb => ?_, q⟩
    have e : b = s1.heap.objs.size := by simpa using hb
    subst e
    exact I1.fpOk (Nat.le_refl _) (I1.hok.fresh (Nat.le_refl _))
  · obtain ⟨its, rv, p, hz⟩ := I1.tuple hq
    refine wpAny_pyIter_tuple (show s1.heap.IsTuple a its.toArray from p) ?_
    refine ⟨s1.heap.objs.size, [s1.heap.objs.size], _, _, H1, rfl, I1.kept (t' := s1.toks) fun b o e => Heap.get?_push_of_some _ e, turn_tuple a _, ⟨_, Heap.get?_push_size _ rfl, rfl, rfl⟩, fun b hb => ?_, q⟩
    have e : b = s1.heap.objs.size := by simpa using hb
    subst e
    exact I1.fpOk (Nat.le_refl _) (I1.hok.fresh (Nat.le_refl _))
section
variable {K : PySem.W.Frag} {μ : Nat → Addr} {st : Sto} {H : Hp}
theorem src_tup {a : Addr} {vs : List V} {ws : List W} (t : Tp K H a vs) (r : Reps K μ st.length H vs ws) : SrcOk K (Itt K a) (.fix ws) μ st.length H := fun μ' st' H' N S i => by
  have t' := (N.tp _ _ t).sq
  have r' := r.nxw N
  show match ws[i]? with
    | none => (Itt K a).stop i H'
    | some w => _
  cases e : ws[i]? with
  | none => exact ⟨vs, t', by rw [r.length]; exact List.getElem?_eq_none_iff.mp e⟩
  | some w =>
    obtain ⟨v, h1, h2⟩ := r'.get e
    refine ⟨⟨vs, v, t', h1⟩, fun x H'' y => ?_⟩
    obtain ⟨rfl, y⟩ := y
    have : x = v := Option.some.inj ((y vs t').symm.trans h1)
    subst this
    exact ⟨Nxt.refl, S, h2⟩
theorem src_frz {a : Addr} {ns : List Int} (t : Fz K H a ns) : SrcOk K (Itl K a) (.fix (ns.map W.int)) μ st.length H := fun μ' st' H' N S i => by
  have t' := (N.fz _ _ t).sq
  have r' : Reps K μ' st'.length H' (ns.map V.int) (ns.map W.int) := Reps.ints
  show match (ns.map W.int)[i]? with
    | none => (Itl K a).stop i H'
    | some w => _
  cases e : (ns.map W.int)[i]? with
  | none => exact ⟨_, t', by have := List.getElem?_eq_none_iff.mp e; simpa using this⟩
  | some w =>
    obtain ⟨v, h1, h2⟩ := r'.get e
    refine ⟨⟨_, v, t', h1⟩, fun x H'' y => ?_⟩
    obtain ⟨rfl, y⟩ := y
    have : x = v := Option.some.inj ((y _ t').symm.trans h1)
    subst this
    exact ⟨Nxt.refl, S, h2⟩
theorem src_lv {n : Nat} (hn : n < st.length) : SrcOk K (Itl K (μ n)) (.lv n) μ st.length H := fun μ' st' H' N S i => by
  have hn' : n < st'.length := Nat.lt_of_lt_of_le hn N.le
  have e1 : st'[n]? = some st'[n] := by simp [hn']
  obtain ⟨xs, ex⟩ : ∃ xs, st'[n] = .lst xs := by
    cases st'[n] with
    | lst xs => exact ⟨xs, rfl⟩
  rw [ex] at e1
  obtain ⟨vs, h1, r⟩ := S.lstAt e1
  rw [N.mu n hn] at h1
  have t' : SqL K H' (μ n) vs := .inl (.inl h1)
  show match lsAt st' n i with
    | none => (Itl K (μ n)).stop i H'
    | some w => _
  have e2 : lsAt st' n i = xs[i]? := by unfold lsAt; rw [e1]
  rw [e2]
  cases e : xs[i]? with
  | none => exact ⟨vs, t', by rw [r.length]; exact List.getElem?_eq_none_iff.mp e⟩
  | some w =>
    obtain ⟨v, h2, h3⟩ := r.get e
    refine ⟨⟨vs, v, t', h2⟩, fun x H'' y => ?_⟩
    obtain ⟨rfl, y⟩ := y
    have : x = v := Option.some.inj ((y vs t').symm.trans h2)
    subst this
    exact ⟨Nxt.refl, S, h3⟩
end
def iOf (m : EX) : IX := fun env st => (m env st).bind fun x s1 => match x with
  | .tup xs => .ok (.fix xs) s1
  | .ls n => .ok (.lv n) s1
  | .frz ns => .ok (.fix (ns.map W.int)) s1
  | _ => .err
theorem ri_of {m : EX} (h : RE X e m) : RI X tg e (iOf m) := pi_imp (pi_seq h) fun σ H R0 ⟨μ, env, st, src, st', S, E, h, k⟩ => by
  obtain ⟨x, s1, h1, h2⟩ := R.bind_ok h
  refine ⟨μ, env, st, x, s1, S, E, h1, fun μ1 H1 v N1 S1 r1 => ?_⟩
  cases x with
  | tup xs =>
    cases h2
    obtain ⟨a, vs, rfl, t, r⟩ := rep_tup r1
    exact ⟨a, rfl, .inr ⟨⟨vs, t.sq⟩, k _ _ _ N1 S1 (src_tup t r)⟩⟩
  | ls n =>
    cases h2
    obtain ⟨rfl, hn⟩ := rep_ls r1
    obtain ⟨xs, q⟩ := S1.isL hn
    exact ⟨_, rfl, .inl ⟨⟨xs, .inl (.inl q)⟩, k _ _ _ N1 S1 (src_lv hn)⟩⟩
  | frz ns =>
    cases h2
    obtain ⟨a, rfl, f⟩ := rep_frz r1
    exact ⟨a, rfl, .inl ⟨⟨_, f.sq⟩, k _ _ _ N1 S1 (src_frz f)⟩⟩
  | _ => cases h2
/-- whole numbers from lo on, by steps of c -/
def rngW (lo c : Int) : Nat → List W
  | 0 => []
  | n + 1 => .int lo :: rngW (lo + c) c n
theorem rngW_get : ∀ (n : Nat) (lo c : Int) (i : Nat), (rngW lo c n)[i]? = if i < n then some (.int (lo + (i : Nat) * c)) else none
  | 0, _, _, _ => by simp [rngW]
  | n + 1, lo, c, 0 => by simp [rngW]
  | n + 1, lo, c, i + 1 => by
    simp only [rngW, List.getElem?_cons_succ]
    rw [rngW_get n (lo + c) c i]
    by_cases h : i < n
    · rw [if_pos h, if_pos (by omega)]
      have : lo + c + (i : Int) * c = lo + ((i + 1 : Nat) : Int) * c := by
        push_cast
        rw [Int.add_mul]
        omega
      rw [this]
    · rw [if_neg h, if_neg (by omega)]
def rngOk (i : Int) : Bool := decide (-1000000000 ≤ i) && decide (i ≤ 1000000000)
theorem rngOk_ok {i : Int} (h : rngOk i = true) : -(2 ^ 62) ≤ i ∧ i < 2 ^ 62 := by
  unfold rngOk at h
  simp only [Bool.and_eq_true, decide_eq_true_eq] at h
  omega
def iRange (n : AX) : IX := fun env st => (n env st).bind fun ws s1 => match ws with
  | [.int j] => if rngOk j = true then .ok (.fix (rngW 0 1 j.toNat)) s1 else .err
  | [.int i, .int j] => if rngOk i = true ∧ rngOk j = true then .ok (.fix (rngW i 1 (j - i).toNat)) s1 else .err
  | [.int i, .int j, .int c] => if rngOk i = true ∧ rngOk j = true ∧ c = -1 then .ok (.fix (rngW i (-1) (i - j).toNat)) s1 else .err
  | _ => .err
theorem src_rng {K : PySem.W.Frag} {μ : Nat → Addr} {st : Sto} {H : Hp} {lo : Int} {n : Nat} : SrcOk K (Itr lo n) (.fix (rngW lo 1 n)) μ st.length H := fun μ' st' H' N S i => by
  show match (rngW lo 1 n)[i]? with
    | none => (Itr lo n).stop i H'
    | some w => _
  rw [rngW_get]
  by_cases h : i < n
  · rw [if_pos h]
    refine ⟨h, fun x H'' y => ?_⟩
    obtain ⟨rfl, rfl⟩ := y
    rw [Int.mul_one]
    exact ⟨Nxt.refl, S, .int _⟩
  · rw [if_neg h]
    exact Nat.le_of_not_lt h
theorem src_rngC {K : PySem.W.Frag} {μ : Nat → Addr} {st : Sto} {H : Hp} {lo c : Int} {n : Nat} : SrcOk K (Itc lo c n) (.fix (rngW lo c n)) μ st.length H := fun μ' st' H' N S i => by
  show match (rngW lo c n)[i]? with
    | none => (Itc lo c n).stop i H'
    | some w => _
  rw [rngW_get]
  by_cases h : i < n
  · rw [if_pos h]
    refine ⟨h, fun x H'' y => ?_⟩
    obtain ⟨rfl, rfl⟩ := y
    exact ⟨Nxt.refl, S, .int _⟩
  · rw [if_neg h]
    exact Nat.le_of_not_lt h
theorem args1 {K : PySem.W.Frag} {μ : Nat → Addr} {L : Nat} {H : Hp} {vs : List V} {j : Int} (r : Reps K μ L H vs [.int j]) : vs = [.int j] := by
  match vs, r with
  | [x], .cons r1 .nil => rw [rep_int r1]
theorem args2 {K : PySem.W.Frag} {μ : Nat → Addr} {L : Nat} {H : Hp} {vs : List V} {i j : Int} (r : Reps K μ L H vs [.int i, .int j]) : vs = [.int i, .int j] := by
  match vs, r with
  | [x, y], .cons r1 (.cons r2 .nil) => rw [rep_int r1, rep_int r2]
theorem args3 {K : PySem.W.Frag} {μ : Nat → Addr} {L : Nat} {H : Hp} {vs : List V} {i j k : Int} (r : Reps K μ L H vs [.int i, .int j, .int k]) : vs = [.int i, .int j, .int k] := by
  match vs, r with
  | [x, y, z], .cons r1 (.cons r2 (.cons r3 .nil)) => rw [rep_int r1, rep_int r2, rep_int r3]
theorem cons1 {m : EX} {env : Env'} {st st' : Sto} {ws : List W} (h : aCons m aNil env st = .ok ws st') : ∃ w, ws = [w] ∧ m env st = .ok w st' := by
  obtain ⟨x, s1, h1, h2⟩ := R.bind_ok h
  obtain ⟨xs, s2, h3, h4⟩ := R.bind_ok h2
  cases h3
  cases h4
  exact ⟨x, rfl, h1⟩
theorem cons2 {m n : EX} {env : Env'} {st st' : Sto} {ws : List W} (h : aCons m (aCons n aNil) env st = .ok ws st') : ∃ w u, ws = [w, u] := by
  obtain ⟨x, s1, h1, h2⟩ := R.bind_ok h
  obtain ⟨xs, s2, h3, h4⟩ := R.bind_ok h2
  obtain ⟨u, rfl, _⟩ := cons1 h3
  cases h4
  exact ⟨x, u, rfl⟩
theorem cons3 {m n o : EX} {env : Env'} {st st' : Sto} {ws : List W} (h : aCons m (aCons n (aCons o aNil)) env st = .ok ws st') : ∃ w u z, ws = [w, u, z] := by
  obtain ⟨x, s1, h1, h2⟩ := R.bind_ok h
  obtain ⟨xs, s2, h3, h4⟩ := R.bind_ok h2
  obtain ⟨u, z, rfl⟩ := cons2 h3
  cases h4
  exact ⟨x, u, z, rfl⟩
theorem ri_range1 {N : List Str} {sc : Scope} (hX : In X N sc) {m : EX} {p : Pos} (hg : glB sc "range" = true) (hm : X.mg "range" = none) (ha : RE X a m) (hs : Pl a := by exact fun _ _ => rfl) :
    RI X tg (.Call (.Name "range" p) [a] [] pos) (iRange (aCons m aNil)) := pi_imp (pi_range1 (hX.gl hg) hm (ra_cons ha ra_nil hs) (hs [] X.env)) fun σ H R0 ⟨μ, env, st, src, st', S, E, h, k⟩ => by
  obtain ⟨ws, s1, h1, h2⟩ := R.bind_ok h
  obtain ⟨w, rfl, _⟩ := cons1 h1
  refine ⟨μ, env, st, _, s1, S, E, h1, fun μ1 H1 vs N1 S1 r1 => ?_⟩
  cases w with
  | int j =>
    have := args1 r1; subst this
    simp only [] at h2
    split at h2
    · rename_i hj
      cases h2
      obtain ⟨q1, q2⟩ := rngOk_ok hj
      exact ⟨j, rfl, q1, q2, k _ _ _ N1 S1 src_rng⟩
    · cases h2
  | _ => cases h2
theorem ri_range2 {N : List Str} {sc : Scope} (hX : In X N sc) {m n : EX} {p : Pos} (hg : glB sc "range" = true) (hm : X.mg "range" = none) (ha : RE X a m) (hb : RE X b n) (hs : Pl a := by exact fun _ _ => rfl) (hs2 : Pl b := by exact fun _ _ => rfl) :
    RI X tg (.Call (.Name "range" p) [a, b] [] pos) (iRange (aCons m (aCons n aNil))) := pi_imp (pi_range2 (hX.gl hg) hm (ra_cons ha (ra_cons hb ra_nil hs2) hs) ((hs [b] X.env).trans (by rw [hs2 [] X.env]; rfl)) (hs2 [] X.env)) fun σ H R0 ⟨μ, env, st, src, st', S, E, h, k⟩ => by
  obtain ⟨ws, s1, h1, h2⟩ := R.bind_ok h
  obtain ⟨w, u, rfl⟩ := cons2 h1
  refine ⟨μ, env, st, _, s1, S, E, h1, fun μ1 H1 vs N1 S1 r1 => ?_⟩
  cases w with
  | int i =>
    cases u with
    | int j =>
      have := args2 r1; subst this
      simp only [] at h2
      split at h2
      · rename_i hj
        cases h2
        obtain ⟨q1, q2⟩ := rngOk_ok hj.1
        obtain ⟨q3, q4⟩ := rngOk_ok hj.2
        exact ⟨i, j, rfl, ⟨q1, q2, q3, q4⟩, k _ _ _ N1 S1 src_rng⟩
      · cases h2
    | _ => cases h2
  | _ => cases h2
theorem ri_range3 {N : List Str} {sc : Scope} (hX : In X N sc) {m n o : EX} {p : Pos} (hg : glB sc "range" = true) (hm : X.mg "range" = none) (ha : RE X a m) (hb : RE X b n) (hc : RE X c o)
    (hs : Pl a := by exact fun _ _ => rfl) (hs2 : Pl b := by exact fun _ _ => rfl) (hs3 : Pl c := by exact fun _ _ => rfl) :
    RI X tg (.Call (.Name "range" p) [a, b, c] [] pos) (iRange (aCons m (aCons n (aCons o aNil)))) := pi_imp (pi_range3 (hX.gl hg) hm (ra_cons ha (ra_cons hb (ra_cons hc ra_nil hs3) hs2) hs) (hs [b, c] X.env) (by rw [hs2 [c] X.env, hs3 [] X.env]; rfl)) fun σ H R0 ⟨μ, env, st, src, st', S, E, h, k⟩ => by
  obtain ⟨ws, s1, h1, h2⟩ := R.bind_ok h
  obtain ⟨w, u, z, rfl⟩ := cons3 h1
  refine ⟨μ, env, st, _, s1, S, E, h1, fun μ1 H1 vs N1 S1 r1 => ?_⟩
  cases w with
  | int i =>
    cases u with
    | int j =>
      cases z with
      | int c0 =>
        have := args3 r1; subst this
        simp only [] at h2
        split at h2
        · rename_i hj
          obtain ⟨hj1, hj2, rfl⟩ := hj
          cases h2
          obtain ⟨q1, q2⟩ := rngOk_ok hj1
          obtain ⟨q3, q4⟩ := rngOk_ok hj2
          exact ⟨i, j, -1, _, rfl, RgC.neg q1 q2 q3 q4, k _ _ _ N1 S1 src_rngC⟩
        · cases h2
      | _ => cases h2
    | _ => cases h2
  | _ => cases h2
end
end Rx

/-! RxF: statements, loops, comprehensions, defs. -/
namespace Rx
open PySem PySem.Spec PyProof.Rows L2

/-- how a statement ends -/
inductive Fl where
  | nx (env : Env') | rt (w : W) | bk (env : Env') | ct (env : Env')
abbrev SX := Env' → Sto → R Fl
def KS (K : PySem.W.Frag) (μ : Nat → Addr) (L : Nat) (H : Hp) (f : Fl) (st' : Sto) (D : Ends) : Prop := ∀ μ' H', Nxt K μ L H μ' st'.length H' → Sim K μ' st' H' → match f with
  | .nx e => ∀ σ', EnvR K μ' st'.length H' e σ' → D.nx σ' H'
  | .bk e => ∀ σ', EnvR K μ' st'.length H' e σ' → D.bk σ' H'
  | .ct e => ∀ σ', EnvR K μ' st'.length H' e σ' → D.ct σ' H'
  | .rt w => ∀ v, Rep K μ' st'.length H' v w → D.rt v H'
theorem KS.mono {K : PySem.W.Frag} {μ μ1 : Nat → Addr} {L L1 : Nat} {H H1 : Hp} {f : Fl} {st' : Sto} {D : Ends} (n : Nxt K μ L H μ1 L1 H1) (k : KS K μ L H f st' D) : KS K μ1 L1 H1 f st' D := fun μ' H' N S => k μ' H' (n.trans N) S
def lS (K : PySem.W.Frag) (m : SX) : TS := fun D σ H => ∃ μ env st f st', Sim K μ st H ∧ EnvR K μ st.length H env σ ∧ m env st = .ok f st' ∧ KS K μ st.length H f st' D
abbrev RS (X : Cx) (s : Stmt) (m : SX) : Prop := PS X s (lS X.K m)
abbrev RSs (X : Cx) (ss : List Stmt) (m : SX) : Prop := PSs X ss (lS X.K m)

section
variable {X : Cx} {e a b c tg : Expr} {pos : Pos} {s s1 : Stmt} {ss : List Stmt}
theorem ps_imp {t t' : TS} (h : PS X s t) (i : ∀ D σ H, t' D σ H → t D σ H) : PS X s t' := ⟨fun pins sh σ H D I q => h.run pins sh σ H D I (i D σ H q)⟩
theorem pss_imp {t t' : TS} (h : PSs X ss t) (i : ∀ D σ H, t' D σ H → t D σ H) : PSs X ss t' := ⟨fun pins sh σ H D I q => h.run pins sh σ H D I (i D σ H q)⟩
def sNil : SX := fun env st => .ok (.nx env) st
def sSeq (m n : SX) : SX := fun env st => match m env st with
  | .ok (.nx e) s1 => n e s1
  | .ok f s1 => .ok f s1
  | .err => .err
theorem rss_nil : RSs X [] sNil := pss_imp pss_nil fun D σ H ⟨μ, env, st, f, st', S, E, h, k⟩ => by
  cases h
  exact k _ _ Nxt.refl S σ E
theorem rss_one {m : SX} (h : RS X s m) : RSs X [s] m := pss_one h
theorem rss_cons {m n : SX} (h1 : RS X s m) (h2 : RSs X ss n) : RSs X (s :: ss) (sSeq m n) := pss_imp (pss_cons h1 h2) fun D σ H ⟨μ, env, st, f, st', S, E, h, k⟩ => by
  unfold sSeq at h
  cases e : m env st with
  | err => rw [e] at h; cases h
  | ok g s1 =>
    rw [e] at h
    refine ⟨μ, env, st, g, s1, S, E, e, fun μ1 H1 N1 S1 => ?_⟩
    cases g with
    | nx e1 => exact fun σ' E' => ⟨μ1, e1, s1, f, st', S1, E', h, k.mono N1⟩
    | rt w => cases h; exact k _ _ N1 S1
    | bk e1 => cases h; exact k _ _ N1 S1
    | ct e1 => cases h; exact k _ _ N1 S1
def sPass : SX := sNil
def sBreak : SX := fun env st => .ok (.bk env) st
def sCont : SX := fun env st => .ok (.ct env) st
theorem rs_pass : RS X (.Pass pos) sNil := ps_imp ps_pass fun D σ H ⟨μ, env, st, f, st', S, E, h, k⟩ => by
  cases h
  exact k _ _ Nxt.refl S σ E
theorem rs_break : RS X (.Break pos) sBreak := ps_imp ps_break fun D σ H ⟨μ, env, st, f, st', S, E, h, k⟩ => by
  cases h
  exact k _ _ Nxt.refl S σ E
theorem rs_continue : RS X (.Continue pos) sCont := ps_imp ps_continue fun D σ H ⟨μ, env, st, f, st', S, E, h, k⟩ => by
  cases h
  exact k _ _ Nxt.refl S σ E
def sExpr (m : EX) : SX := fun env st => (m env st).bind fun _ s1 => .ok (.nx env) s1
theorem rs_expr {m : EX} (h : RE X e m) (hs : swapsWith e none pos.line X.env = pure false := by rfl) : RS X (.Expr e pos) (sExpr m) := ps_imp (ps_expr h hs) fun D σ H ⟨μ, env, st, f, st', S, E, h, k⟩ => by
  obtain ⟨x, s1, h1, h2⟩ := R.bind_ok h
  cases h2
  exact ⟨μ, env, st, x, _, S, E, h1, fun μ1 H1 v N1 S1 r1 => k _ _ N1 S1 σ (E.nxt N1)⟩
def sRet (m : EX) : SX := fun env st => (m env st).bind fun w s1 => .ok (.rt w) s1
theorem rs_ret {m : EX} (h : RE X e m) : RS X (.Return (some e) pos) (sRet m) := ps_imp (ps_ret h) fun D σ H ⟨μ, env, st, f, st', S, E, h, k⟩ => by
  obtain ⟨x, s1, h1, h2⟩ := R.bind_ok h
  cases h2
  exact ⟨μ, env, st, x, _, S, E, h1, fun μ1 H1 v N1 S1 r1 => k _ _ N1 S1 v r1⟩
def sRetN : SX := fun _ st => .ok (.rt .non) st
theorem rs_retN : RS X (.Return none pos) sRetN := ps_imp ps_retN fun D σ H ⟨μ, env, st, f, st', S, E, h, k⟩ => by
  cases h
  exact k _ _ Nxt.refl S _ .non
/-- a statement that is never come to (raise) -/
def sErr : SX := fun _ _ => .err
theorem rs_err : RS X s sErr := ps_imp ps_never fun D σ H ⟨μ, env, st, f, st', S, E, h, k⟩ => by cases h
def sIf (c : TX) (m n : SX) : SX := fun env st => (c env st).bind fun b s1 => if b = true then m env s1 else n env s1
theorem rs_if {t u : List Stmt} {mc : TX} {m n : SX} (hc : RT X c mc) (h1 : RSs X t m) (h2 : RSs X u n) : RS X (.If c t u pos) (sIf mc m n) := ps_imp (ps_if hc h1 h2) fun D σ H ⟨μ, env, st, f, st', S, E, h, k⟩ => by
  obtain ⟨x, s1, h1, h2⟩ := R.bind_ok h
  refine ⟨μ, env, st, x, s1, S, E, h1, fun μ1 H1 N1 S1 => ?_⟩
  cases x with
  | true =>
    simp only [if_true] at h2 ⊢
    exact ⟨μ1, env, s1, f, st', S1, E.nxt N1, h2, k.mono N1⟩
  | false =>
    simp only [Bool.false_eq_true, if_false] at h2 ⊢
    exact ⟨μ1, env, s1, f, st', S1, E.nxt N1, h2, k.mono N1⟩

/-! ### stores -/
def sPat (p : Pat) (m : EX) : SX := fun env st => (m env st).bind fun w s1 => match p.set w s1 env with
  | some env1 => .ok (.nx env1) s1
  | none => .err
theorem asg_run {p : Pat} {m : EX} {D : Ends} {σ : L2.St} {H : Hp} (h : lS X.K (sPat p m) D σ H) : lE X.K m σ H fun x H1 => gPat X.K p x σ H1 D.nx := by
  obtain ⟨μ, env, st, f, st', S, E, h, k⟩ := h
  obtain ⟨x, s1, h1, h2⟩ := R.bind_ok h
  refine ⟨μ, env, st, x, s1, S, E, h1, fun μ1 H1 v N1 S1 r1 => ?_⟩
  split at h2
  · rename_i env1 he
    cases h2
    exact gPat_run (vs0 := []) S1 (E.nxt N1) r1 he fun σ' E' _ => k _ _ N1 S1 σ' E'
  · cases h2
/-- name = e -/
theorem rs_set {i : Nat} {x : Str} {m : EX} {pos' : Pos} (h : Lo X i x) (he : RE X e m) (hs : swapsWith e (some (.Name x pos')) pos.line X.env = pure false := by rfl) :
    RS X (.Assign [.Name x pos'] e pos) (sPat (.nm i) m) :=
  ps_imp (ps_set (i := i) h.2.2.2 h.1 h.2.1 he hs h.2.2.1) fun D σ H h => asg_run h
/-- a, b = e (e a tuple, a list) -/
theorem rs_asg {p : Pat} {m : EX} (hg : RG X tg p) (he : RE X e m) (hs : swapsWithSole [tg] e pos.line X.env = pure false := by rfl) (hw : swappedStores [tg] e X.env = pure none := by rfl)
    (h1 : (assignEach [tg] X.env).map (·.2) = [assign tg X.env] := by rfl) : RS X (.Assign [tg] e pos) (sPat p m) :=
  ps_imp (ps_asg he hg hs hw h1) fun D σ H h => asg_run h
/-- a, b = x, y by local names -/
def locB (sc : Scope) (x : Str) : Bool := match sc.names.lookup x with
  | some .local => true
  | _ => false
theorem locB_ok {X : Cx} {N : List Str} {sc : Scope} (hX : In X N sc) {x : Str} (h : locB sc x = true) : X.env.scope.names.lookup x = some .local := by
  rw [hX.s]
  unfold locB at h
  split at h
  · assumption
  · cases h
def sPar (i j : Nat) (n : AX) : SX := fun env st => (n env st).bind fun ws s1 => match ws with
  | [w, u] => .ok (.nx ((env.set i (some w)).set j (some u))) s1
  | _ => .err
def sPar3 (i j l : Nat) (n : AX) : SX := fun env st => (n env st).bind fun ws s1 => match ws with
  | [w, u, z] => .ok (.nx (((env.set i (some w)).set j (some u)).set l (some z))) s1
  | _ => .err
def ixOk (N : List Str) (i : Nat) (x : Str) : Bool := decide (N[i]? = some x)
theorem rs_par {N : List Str} {sc : Scope} (hX : In X N sc) {i j : Nat} {x y : Str} {n : AX} {px py pt : Pos} {kt k2 pt2} (hi : ixOk N i x = true) (hj : ixOk N j y = true) (hij : Nat.beq i j = false) (hx : locB sc x = true) (hy : locB sc y = true) (ha : RA X [a, b] n)
    (hw : ∀ env : Env, env.scope = sc → swappedStores [.Tuple [.Name x px, .Name y py] kt pt] (.Tuple [a, b] k2 pt2) env = pure (some [x, y]))
    (hs : swapsWithSole [.Tuple [.Name x px, .Name y py] kt pt] (.Tuple [a, b] k2 pt2) pos.line X.env = pure false := by rfl) :
    RS X (.Assign [.Tuple [.Name x px, .Name y py] kt pt] (.Tuple [a, b] k2 pt2) pos) (sPar i j n) :=
  ps_imp (ps_par (i := i) (j := j) hX.calm (by rw [hX.n]; exact hX.nd) (by rw [hX.n]; exact of_decide_eq_true hi) (by rw [hX.n]; exact of_decide_eq_true hj) (Nat.ne_of_beq_eq_false hij) (locB_ok hX hx) (locB_ok hX hy) ha (hw X.env hX.s) hs)
    fun D σ H ⟨μ, env, st, f, st', S, E, h, k⟩ => by
    obtain ⟨ws, s1, h1, h2⟩ := R.bind_ok h
    refine ⟨μ, env, st, ws, s1, S, E, h1, fun μ1 H1 vs N1 S1 r1 => ?_⟩
    match ws, r1, h2 with
    | [w, u], .cons r (.cons r' .nil), h2 =>
      cases h2
      exact ⟨_, _, rfl, k _ _ N1 S1 _ (((E.nxt N1).set r i).set r' j)⟩
theorem rs_par3 {N : List Str} {sc : Scope} (hX : In X N sc) {i j l : Nat} {x y z : Str} {n : AX} {px py pz pt : Pos} {kt k2 pt2} (hi : ixOk N i x = true) (hj : ixOk N j y = true) (hl : ixOk N l z = true) (hij : Nat.beq i j = false) (hil : Nat.beq i l = false) (hjl : Nat.beq j l = false) (hx : locB sc x = true) (hy : locB sc y = true) (hz : locB sc z = true) (ha : RA X [a, b, c] n)
    (hw : ∀ env : Env, env.scope = sc → swappedStores [.Tuple [.Name x px, .Name y py, .Name z pz] kt pt] (.Tuple [a, b, c] k2 pt2) env = pure (some [x, y, z]))
    (hs : swapsWithSole [.Tuple [.Name x px, .Name y py, .Name z pz] kt pt] (.Tuple [a, b, c] k2 pt2) pos.line X.env = pure false := by rfl) :
    RS X (.Assign [.Tuple [.Name x px, .Name y py, .Name z pz] kt pt] (.Tuple [a, b, c] k2 pt2) pos) (sPar3 i j l n) :=
  ps_imp (ps_par3 (i := i) (j := j) (l := l) hX.calm (by rw [hX.n]; exact hX.nd) (by rw [hX.n]; exact of_decide_eq_true hi) (by rw [hX.n]; exact of_decide_eq_true hj) (by rw [hX.n]; exact of_decide_eq_true hl) (Nat.ne_of_beq_eq_false hij) (Nat.ne_of_beq_eq_false hil) (Nat.ne_of_beq_eq_false hjl) (locB_ok hX hx) (locB_ok hX hy) (locB_ok hX hz) ha (hw X.env hX.s) hs)
    fun D σ H ⟨μ, env, st, f, st', S, E, h, k⟩ => by
    obtain ⟨ws, s1, h1, h2⟩ := R.bind_ok h
    refine ⟨μ, env, st, ws, s1, S, E, h1, fun μ1 H1 vs N1 S1 r1 => ?_⟩
    match ws, r1, h2 with
    | [w, u, z], .cons r (.cons r' (.cons r'' .nil)), h2 =>
      cases h2
      exact ⟨_, _, _, rfl, k _ _ N1 S1 _ ((((E.nxt N1).set r i).set r' j).set r'' l)⟩
/-- several subscripts, names: o[i], x, .. = a tuple -/
inductive Tg where
  | nm (i : Nat) | sub (mo mi : EX)
def Tg.set (t : Tg) (w : W) (env : Env') (st : Sto) : R Env' := match t with
  | .nm i => .ok (env.set i (some w)) st
  | .sub mo mi => (mo env st).bind fun o s1 => (mi env s1).bind fun i s2 => (fSet o i w s2).bind fun _ s3 => .ok env s3
def gTg (K : PySem.W.Frag) : Tg → TG
  | .nm i => gName i
  | .sub mo mi => gSub (lE K mo) (lE K mi) (lSet K)
abbrev RTg (X : Cx) (e : Expr) (t : Tg) : Prop := PG X e (gTg X.K t)
theorem rt_nm {i : Nat} {x : Str} (h : Lo X i x) : RTg X (.Name x pos) (.nm i) := pg_name h.2.2.2 h.1 h.2.1 h.2.2.1
theorem rt_sub {mo mi : EX} (ho : RE X a mo) (hi : RE X b mi)
    (ha : ∀ v, assign (.Subscript a b pos) X.env v = (do
      let ov ← holding [v] (eval a X.env)
      let iv ← holding [v, ov] (eval b X.env)
      standAt pos
      holding [v, ov, iv] (setItem ov iv v)
      release [v, ov, iv] []) := by intro _; rfl) : RTg X (.Subscript a b pos) (.sub mo mi) := pg_sub ho hi s_set ha
theorem gTg_run {t : Tg} {μ : Nat → Addr} {st st' : Sto} {H : Hp} {v : V} {w : W} {env env' : Env'} {σ : L2.St} {Q : L2.St → Hp → Prop} (S : Sim X.K μ st H) (E : EnvR X.K μ st.length H env σ) (r : Rep X.K μ st.length H v w) (h : t.set w env st = .ok env' st')
    (k : ∀ μ' H' σ', Nxt X.K μ st.length H μ' st'.length H' → Sim X.K μ' st' H' → EnvR X.K μ' st'.length H' env' σ' → Q σ' H') : gTg X.K t v σ H Q := by
  cases t with
  | nm i =>
    cases h
    exact k _ _ _ Nxt.refl S (E.set r i)
  | sub mo mi =>
    obtain ⟨o, s1, h1, h2⟩ := R.bind_ok h
    obtain ⟨i, s2, h3, h4⟩ := R.bind_ok h2
    obtain ⟨u, s3, h5, h6⟩ := R.bind_ok h4
    cases h6
    exact ⟨μ, env, st, o, s1, S, E, h1, fun μ1 H1 ov N1 S1 r1 => ⟨μ1, env, s1, i, s2, S1, E.nxt N1, h3, fun μ2 H2 iv N2 S2 r2 => ⟨μ2, s2, o, i, w, _, S2, r1.nxt N2, r2, (r.nxt N1).nxt N2, h5, fun H3 N3 S3 =>
      k _ _ _ ((N1.trans N2).trans N3) S3 (((E.nxt N1).nxt N2).nxt N3)⟩⟩⟩
def setTgs : List Tg → List W → Env' → Sto → R Env'
  | [], [], env, st => .ok env st
  | t :: ts, w :: ws, env, st => (t.set w env st).bind fun e s1 => setTgs ts ws e s1
  | _, _, _, _ => .err
def gTgs (K : PySem.W.Frag) : List Tg → TGs
  | [] => gNil
  | t :: ts => gCons (gTg K t) (gTgs K ts)
theorem rts_nil : PGs X [] (gTgs X.K []) := pgs_nil
theorem rts_cons {t : Tg} {ts : List Tg} {es : List Expr} (h : RTg X a t) (h2 : PGs X es (gTgs X.K ts)) (hs : (assignEach (a :: es) X.env).map (·.2) = assign a X.env :: (assignEach es X.env).map (·.2) := by rfl) : PGs X (a :: es) (gTgs X.K (t :: ts)) := pgs_cons h h2 hs
theorem gTgs_run : ∀ {ts : List Tg} {μ : Nat → Addr} {st st' : Sto} {H : Hp} {vs : List V} {ws : List W} {env env' : Env'} {σ : L2.St} {Q : L2.St → Hp → Prop}, Sim X.K μ st H → EnvR X.K μ st.length H env σ → Reps X.K μ st.length H vs ws → setTgs ts ws env st = .ok env' st' →
    (∀ μ' H' σ', Nxt X.K μ st.length H μ' st'.length H' → Sim X.K μ' st' H' → EnvR X.K μ' st'.length H' env' σ' → Q σ' H') → gTgs X.K ts vs σ H Q
  | [], μ, st, st', H, _, _, env, env', σ, Q, S, E, r, h, k => by
    cases r with
    | nil => cases h; exact ⟨rfl, k _ _ _ Nxt.refl S E⟩
    | cons _ _ => cases h
  | t :: ts, μ, st, st', H, _, _, env, env', σ, Q, S, E, r, h, k => by
    cases r with
    | nil => cases h
    | cons r rs =>
      obtain ⟨e, s1, h1, h2⟩ := R.bind_ok h
      exact ⟨_, _, rfl, gTg_run S E r h1 fun μ1 H1 σ1 N1 S1 E1 => gTgs_run S1 E1 (rs.nxt N1) h2 fun μ2 H2 σ2 N2 S2 E2 => k _ _ _ (N1.trans N2) S2 E2⟩
theorem setTgs_len : ∀ {ts : List Tg} {ws : List W} {env env' : Env'} {st st' : Sto}, setTgs ts ws env st = .ok env' st' → ws.length = ts.length
  | [], [], _, _, _, _, _ => rfl
  | [], _ :: _, _, _, _, _, h => by cases h
  | _ :: _, [], _, _, _, _, h => by cases h
  | t :: ts, w :: ws, _, _, _, _, h => by
    obtain ⟨e, s1, h1, h2⟩ := R.bind_ok h
    simp [setTgs_len h2]
/-- o[i] = e; also several of these, names among them, from a tuple -/
def sTg (t : Tg) (m : EX) : SX := fun env st => (m env st).bind fun w s1 => (t.set w env s1).bind fun e s2 => .ok (.nx e) s2
theorem rs_tg {t : Tg} {m : EX} (hg : RTg X tg t) (he : RE X e m) (hs : swapsWithSole [tg] e pos.line X.env = pure false := by rfl) (hw : swappedStores [tg] e X.env = pure none := by rfl)
    (h1 : (assignEach [tg] X.env).map (·.2) = [assign tg X.env] := by rfl) : RS X (.Assign [tg] e pos) (sTg t m) :=
  ps_imp (ps_asg he hg hs hw h1) fun D σ H ⟨μ, env, st, f, st', S, E, h, k⟩ => by
    obtain ⟨x, s1, h1, h2⟩ := R.bind_ok h
    obtain ⟨e1, s2, h3, h4⟩ := R.bind_ok h2
    cases h4
    exact ⟨μ, env, st, x, s1, S, E, h1, fun μ1 H1 v N1 S1 r1 => gTg_run S1 (E.nxt N1) r1 h3 fun μ2 H2 σ2 N2 S2 E2 => k _ _ (N1.trans N2) S2 σ2 E2⟩
def sTgs (ts : List Tg) (m : EX) : SX := fun env st => (m env st).bind fun w s1 => match w with
  | .tup ws => (setTgs ts ws env s1).bind fun e s2 => .ok (.nx e) s2
  | _ => .err
theorem rs_tgs {N : List Str} {sc : Scope} (hX : In X N sc) {ts : List Tg} {m : EX} {es : List Expr} {k0 : Nat} {tpos : Pos} (hg : PGs X es (gTgs X.K ts)) (he : RE X e m) (hn : (assignEach es X.env).length = ts.length := by rfl) (hst : (assignEach es X.env).findIdx? (·.1) = none := by rfl) (hs : swapsWithSole [.Tuple es k0 tpos] e pos.line X.env = pure false := by rfl) (hw : swappedStores [.Tuple es k0 tpos] e X.env = pure none := by rfl)
    (h1 : (assignEach [.Tuple es k0 tpos] X.env).map (·.2) = [assign (.Tuple es k0 tpos) X.env] := by rfl) : RS X (.Assign [.Tuple es k0 tpos] e pos) (sTgs ts m) :=
  ps_imp (ps_asg he (pg_tup hX.calm hg hn hst) hs hw h1) fun D σ H ⟨μ, env, st, f, st', S, E, h, k⟩ => by
    obtain ⟨x, s1, h1, h2⟩ := R.bind_ok h
    refine ⟨μ, env, st, x, s1, S, E, h1, fun μ1 H1 v N1 S1 r1 => ?_⟩
    cases x with
    | tup ws =>
      obtain ⟨e1, s2, h3, h4⟩ := R.bind_ok h2
      cases h4
      obtain ⟨a, vs, rfl, t, r⟩ := rep_tup r1
      exact ⟨a, vs, rfl, t.sq, by rw [r.length]; exact setTgs_len h3, gTgs_run S1 (E.nxt N1) r h3 fun μ2 H2 σ2 N2 S2 E2 => k _ _ (N1.trans N2) S2 σ2 E2⟩
    | _ => cases h2
/-- name op= e -/
def sAug (i : Nat) (f : W → W → Sto → R W) (m : EX) : SX := fun env st => match env[i]? with
  | some (some x) => (m env st).bind fun y s1 => (f x y s1).bind fun z s2 => .ok (.nx (env.set i (some z))) s2
  | _ => .err
def fAddI : W → W → Sto → R W
  | .int i, .int j, st => .ok (.int (i + j)) st
  | _, _, _ => .err
def fSubI : W → W → Sto → R W
  | .int i, .int j, st => .ok (.int (i - j)) st
  | _, _, _ => .err
def lIp (K : PySem.W.Frag) (f : W → W → Sto → R W) : TIp := lO K f
theorem ip_addI : PIp X .Add (lIp X.K fAddI) := fun pins s σ H x y v u Q I r1 r2 ⟨μ, st, a, b, w, st', S, ra, rb, e, k⟩ => ip_add pins s σ H x y v u Q I r1 r2 (by
  cases a with
  | int i =>
    cases b with
    | int j =>
      cases e
      exact ⟨i, j, rep_int ra, rep_int rb, k.here S (.int _)⟩
    | _ => cases e
  | _ => cases e)
theorem ip_subI : PIp X .Sub (lIp X.K fSubI) := fun pins s σ H x y v u Q I r1 r2 ⟨μ, st, a, b, w, st', S, ra, rb, e, k⟩ => ip_sub pins s σ H x y v u Q I r1 r2 (by
  cases a with
  | int i =>
    cases b with
    | int j =>
      cases e
      exact ⟨i, j, rep_int ra, rep_int rb, k.here S (.int _)⟩
    | _ => cases e
  | _ => cases e)
theorem rs_aug {i : Nat} {x : Str} {op : Operator} {f : W → W → Sto → R W} {m : EX} {pos' : Pos} (h : Lo X i x) (ho : PIp X op (lIp X.K f)) (he : RE X e m) : RS X (.AugAssign (.Name x pos') op e pos) (sAug i f m) := by
  refine ps_imp (ps_aug (i := i) h.2.2.2 h.1 h.2.1 he ho h.2.2.1) fun D σ H ⟨μ, env, st, f, st', S, E, h, k⟩ => ?_
  unfold sAug at h
  split at h
  · rename_i x hx
    obtain ⟨y, s1, g1, g2⟩ := R.bind_ok h
    obtain ⟨z, s2, g3, g4⟩ := R.bind_ok g2
    cases g4
    obtain ⟨v, e1, rv⟩ := E.at_ _ _ hx
    exact ⟨v, e1, μ, env, st, y, s1, S, E, g1, fun μ1 H1 u N1 S1 r1 => ⟨μ1, s1, x, y, z, _, S1, rv.nxt N1, r1, g3, fun μ2 H2 q N2 S2 r2 => k _ _ (N1.trans N2) S2 _ (((E.nxt N1).nxt N2).set r2 i)⟩⟩
  · cases h

/-! ### for -/
def forM (src : Src) (p : Pat) (body : SX) : Nat → Nat → Env' → Sto → R Fl
  | 0, _, _, _ => .err
  | n + 1, i, env, st => match src.at i st with
    | none => .ok (.nx env) st
    | some x => match p.set x st env with
      | none => .err
      | some e1 => match body e1 st with
        | .ok (.nx e) s => forM src p body n (i + 1) e s
        | .ok (.ct e) s => forM src p body n (i + 1) e s
        | .ok (.bk e) s => .ok (.nx e) s
        | .ok (.rt w) s => .ok (.rt w) s
        | .err => .err
/-- how many turns at most: as many as there are items at the start, and one more -/
def Src.bound (src : Src) (st : Sto) : Nat := match src with
  | .fix xs => xs.length + 1
  | .lv n => match st[n]? with
    | some (.lst xs) => xs.length + 1
    | none => 0
  | .en n => match st[n]? with
    | some (.lst xs) => xs.length + 1
    | none => 0
  | .zp n _ => match st[n]? with
    | some (.lst xs) => xs.length + 1
    | none => 0
def sFor (it : IX) (p : Pat) (body : SX) : SX := fun env st => (it env st).bind fun src s1 => forM src p body (src.bound s1) 0 env s1
theorem rs_for {N : List Str} {sc : Scope} (hX : In X N sc) {iter : Expr} {body : List Stmt} {it : IX} {p : Pat} {m : SX} (hi : RI X tg iter it) (hg : RG X tg p) (hb : RSs X body m) (hs : ∀ x, foldedSetIterable iter X.env x = pure x := by intro _; rfl) :
    RS X (.For tg iter body [] pos) (sFor it p m) := ps_imp (ps_for hX.passes hX.calm hi hg hb hs) fun D σ H ⟨μ, env, st, f, st', S, E, h, k⟩ => by
  obtain ⟨src, s1, h1, h2⟩ := R.bind_ok h
  refine ⟨μ, env, st, src, s1, S, E, h1, fun J μ1 H1 N1 S1 so => ?_⟩
  refine ⟨fun i m0 σ H => ∃ μ env st, Sim X.K μ st H ∧ EnvR X.K μ st.length H env σ ∧ forM src p m m0 i env st = .ok f st' ∧ SrcOk X.K J src μ st.length H ∧ KS X.K μ st.length H f st' D, ⟨_, μ1, env, s1, S1, E.nxt N1, h2, so, k.mono N1⟩, ?_⟩
  rintro i m0 σ2 H2 ⟨μ2, env2, st2, S2, E2, g, so2, k2⟩
  cases m0 with
  | zero => cases g
  | succ m0 =>
    have q := so2 μ2 st2 H2 Nxt.refl.w S2 i
    unfold forM at g
    split at g
    · rename_i hn
      rw [hn] at q
      cases g
      exact .inl ⟨q, k2 _ _ Nxt.refl S2 σ2 E2⟩
    · rename_i x hx
      rw [hx] at q
      obtain ⟨go, yl⟩ := q
      split at g
      · cases g
      · rename_i e1 he1
        refine .inr ⟨go, fun σ H => ∃ μ env st, Sim X.K μ st H ∧ EnvR X.K μ st.length H env σ ∧ forM src p m m0 (i + 1) env st = .ok f st' ∧ SrcOk X.K J src μ st.length H ∧ KS X.K μ st.length H f st' D, fun σ' H' hN => ⟨m0, Nat.lt_succ_self _, hN⟩, fun xv H3 y => ?_⟩
        obtain ⟨N3, S3, r3⟩ := yl xv H3 y
        refine gPat_run (vs0 := []) S3 (E2.nxt N3) r3 he1 fun σ4 E4 _ => ?_
        have so3 := so2.mono N3.w
        have k3 := k2.mono N3
        cases eb : m e1 st2 with
        | err => rw [eb] at g; cases g
        | ok fl s5 =>
          rw [eb] at g
          refine ⟨μ2, e1, st2, fl, s5, S3, E4, eb, fun μ5 H5 N5 S5 => ?_⟩
          cases fl with
          | nx e => exact fun σ' E' => ⟨μ5, e, s5, S5, E', g, so3.mono N5.w, k3.mono N5⟩
          | ct e => exact fun σ' E' => ⟨μ5, e, s5, S5, E', g, so3.mono N5.w, k3.mono N5⟩
          | bk e => cases g; exact fun σ' E' => k3 _ _ N5 S5 σ' E'
          | rt w => cases g; exact k3 _ _ N5 S5

/-! ### while -/
def whileM (c : TX) (body : SX) : Nat → Env' → Sto → R Fl
  | 0, _, _ => .err
  | n + 1, env, st => match c env st with
    | .err => .err
    | .ok false s => .ok (.nx env) s
    | .ok true s => match body env s with
      | .ok (.nx e) s => whileM c body n e s
      | .ok (.ct e) s => whileM c body n e s
      | .ok (.bk e) s => .ok (.nx e) s
      | .ok (.rt w) s => .ok (.rt w) s
      | .err => .err
def sWhile (fuel : Nat) (c : TX) (body : SX) : SX := fun env st => whileM c body fuel env st
theorem rs_while {N : List Str} {sc : Scope} (hX : In X N sc) {body : List Stmt} {fuel : Nat} {mc : TX} {m : SX} (hc : RT X c mc) (hb : RSs X body m) : RS X (.While c body [] pos) (sWhile fuel mc m) :=
  ps_imp (ps_while hX.passes hc hb) fun D σ H ⟨μ, env, st, f, st', S, E, h, k⟩ => by
  refine ⟨fun m0 σ H => ∃ μ env st, Sim X.K μ st H ∧ EnvR X.K μ st.length H env σ ∧ whileM mc m m0 env st = .ok f st' ∧ KS X.K μ st.length H f st' D, ⟨fuel, μ, env, st, S, E, h, k⟩, ?_⟩
  rintro m0 σ2 H2 ⟨μ2, env2, st2, S2, E2, g, k2⟩
  cases m0 with
  | zero => cases g
  | succ m0 =>
    unfold whileM at g
    split at g
    · cases g
    · rename_i s3 hc3
      cases g
      exact ⟨μ2, env2, st2, false, _, S2, E2, hc3, fun μ3 H3 N3 S3 => by
        simp only [Bool.false_eq_true, if_false]
        exact k2 _ _ N3 S3 σ2 (E2.nxt N3)⟩
    · rename_i s3 hc3
      refine ⟨μ2, env2, st2, true, s3, S2, E2, hc3, fun μ3 H3 N3 S3 => ?_⟩
      simp only [if_true]
      refine ⟨fun σ H => ∃ μ env st, Sim X.K μ st H ∧ EnvR X.K μ st.length H env σ ∧ whileM mc m m0 env st = .ok f st' ∧ KS X.K μ st.length H f st' D, fun σ' H' hN => ⟨m0, Nat.lt_succ_self _, hN⟩, ?_⟩
      have k3 := k2.mono N3
      cases eb : m env2 s3 with
      | err => rw [eb] at g; cases g
      | ok fl s5 =>
        rw [eb] at g
        refine ⟨μ3, env2, s3, fl, s5, S3, E2.nxt N3, eb, fun μ5 H5 N5 S5 => ?_⟩
        cases fl with
        | nx e => exact fun σ' E' => ⟨μ5, e, s5, S5, E', g, k3.mono N5⟩
        | ct e => exact fun σ' E' => ⟨μ5, e, s5, S5, E', g, k3.mono N5⟩
        | bk e => cases g; exact fun σ' E' => k3 _ _ N5 S5 σ' E'
        | rt w => cases g; exact k3 _ _ N5 S5
end
end Rx

/-! RxG: comprehensions, defs and their calls. -/
namespace Rx
open PySem PySem.Spec PyProof.Rows L2

section
variable {X : Cx} {e a b c tg tg1 elt iter iter1 : Expr} {pos : Pos} {ifs ifs1 : List Expr} {scope : Scope} {own : List (Str × Nat)}
abbrev RTs (X : Cx) (ifs : List Expr) (m : TX) : Prop := PTs X ifs (lT X.K m)
theorem pts_imp {t t' : TT} (h : PTs X ifs t) (i : ∀ σ H Q, t' σ H Q → t σ H Q) : PTs X ifs t' := ⟨fun pins s σ H Q I q => h.run pins s σ H Q I (i σ H Q q)⟩
def tYesM : TX := fun _ st => .ok true st
theorem rts_none : RTs X [] tYesM := pts_imp pts_nil fun σ H Q ⟨μ, env, st, b, st', S, E, h, k⟩ => by
  cases h
  exact k _ _ Nxt.refl S
theorem rts_if {m : TX} (h : RT X c m) : RTs X [c] m := pts_one h
/-- the rest of the list that a comprehension makes from turn i on -/
def compM (src : Src) (p : Pat) (t : TX) (m : EX) (env : Env') : Nat → Nat → Sto → R (List W)
  | 0, _, _ => .err
  | n + 1, i, st => match src.at i st with
    | none => .ok [] st
    | some x => match p.set x st env with
      | none => .err
      | some e1 => match t e1 st with
        | .err => .err
        | .ok false s => compM src p t m env n (i + 1) s
        | .ok true s => match m e1 s with
          | .err => .err
          | .ok y s2 => match compM src p t m env n (i + 1) s2 with
            | .err => .err
            | .ok ys s3 => .ok (y :: ys) s3
def eComp (it : IX) (p : Pat) (t : TX) (m : EX) (vs : List Nat) : EX := fun env st => (it env st).bind fun src s1 => (compM src p t m (wipeE env vs) (src.bound s1) 0 s1).bind fun ys s2 =>
  if ys.length ≤ 1000000 then .ok (.ls s2.length) (s2 ++ [.lst ys]) else .err
theorem nmem_of {p : Pat} {vs : List Nat} (h : (p.slots.all fun i => decide (i ∈ vs)) = true) : ∀ i ∈ p.slots, i ∈ vs := fun i hi => of_decide_eq_true (List.all_eq_true.mp h i hi)
theorem wipe_wipe {σ : L2.St} {vs : List Nat} : L2.wipe (L2.wipe σ vs) vs = L2.wipe σ vs := by
  have : ∀ (us : List Nat) (τ : L2.St), (∀ i ∈ us, i ∈ vs) → (∀ i, i ∈ vs → i < τ.length → τ[i]? = some none) → L2.wipe τ us = τ := by
    intro us
    induction us with
    | nil => intro τ _ _; rfl
    | cons u us ih =>
      intro τ h1 h2
      unfold L2.wipe
      rw [ih τ (fun i hi => h1 i (List.mem_cons_of_mem _ hi)) h2]
      apply List.ext_getElem?
      intro k
      by_cases hk : u = k
      · subst hk
        by_cases hl : u < τ.length
        · rw [List.getElem?_set_self hl, h2 u (h1 u List.mem_cons_self) hl]
        · rw [List.getElem?_eq_none (by rw [List.length_set]; omega), List.getElem?_eq_none (by omega)]
      · rw [List.getElem?_set_ne hk]
  refine this vs _ (fun i hi => hi) fun i hi hl => ?_
  cases e : (L2.wipe σ vs)[i]? with
  | none => rw [List.getElem?_eq_none_iff] at e; omega
  | some o =>
    cases o with
    | none => rfl
    | some y => exact absurd hi (wipe_some e).2
/-- a comprehension on its way: acc stands at D, rest is to come -/
structure CSt (K : PySem.W.Frag) (μ1 : Nat → Addr) (L1 : Nat) (H1 : Hp) (D : Addr) (ys : List W) (J : It) (src : Src) (env : Env') (σ : L2.St) (μ : Nat → Addr) (st : Sto) (H : Hp) (rest : List W) : Prop where
  S : Sim K μ st H
  E : EnvR K μ st.length H env σ
  so : SrcOk K J src μ st.length H
  N : NxtD D K μ1 L1 H1 μ st.length H
  at_ : ∃ us acc, H D = some (.lst us) ∧ Reps K μ st.length H us acc ∧ acc ++ rest = ys
  ne : ∀ i, i < st.length → μ i ≠ D
section
variable {K : PySem.W.Frag} {μ1 : Nat → Addr} {L1 : Nat} {H1 : Hp} {D : Addr} {ys : List W} {J : It} {src : Src} {env : Env'} {σ : L2.St} {μ : Nat → Addr} {st : Sto} {H : Hp} {rest : List W}
theorem CSt.start (S : Sim K μ1 st H1) (E : EnvR K μ1 st.length H1 env σ) (so : SrcOk K J src μ1 st.length H1) (hD : H1 D = none) : CSt K μ1 st.length H1 D ys J src env σ μ1 st (upd H1 D (.lst [])) ys := by
  have N2 : Nxt K μ1 st.length H1 μ1 st.length (upd H1 D (.lst [])) := Nxt.tup hD
  refine ⟨S.tup hD, E.nxt N2, so.mono N2.w, N2.d D, ⟨[], [], upd_same, .nil, rfl⟩, fun i hi => ?_⟩
  obtain ⟨xs, q⟩ := S.isL hi
  exact ne_of_none q hD
theorem CSt.step {μ' : Nat → Addr} {st' : Sto} {H' : Hp} (c : CSt K μ1 L1 H1 D ys J src env σ μ st H rest) (N : Nxt K μ st.length H μ' st'.length H') (S : Sim K μ' st' H') : CSt K μ1 L1 H1 D ys J src env σ μ' st' H' rest := by
  obtain ⟨us, acc, h1, h2, h3⟩ := c.at_
  refine ⟨S, c.E.nxt N, c.so.mono N.w, c.N.trans (N.d D), ⟨us, acc, N.fr D _ h1 fun i hi z => c.ne i hi z.symm, h2.nxt N, h3⟩, fun i hi z => ?_⟩
  by_cases hL : i < st.length
  · rw [N.mu i hL] at z
    exact c.ne i hL z
  · have := N.nw i (Nat.le_of_not_lt hL) hi
    rw [z, h1] at this
    cases this
theorem CSt.app {y : W} {v : V} (c : CSt K μ1 L1 H1 D ys J src env σ μ st H (y :: rest)) (r : Rep K μ st.length H v y) (hz : ys.length ≤ 1000000) : ∃ us, H D = some (.lst us) ∧ us.length < sizeLine ∧ CSt K μ1 L1 H1 D ys J src env σ μ st (upd H D (.lst (us ++ [v]))) rest := by
  obtain ⟨us, acc, h1, h2, h3⟩ := c.at_
  have P : NxtD D K μ st.length H μ st.length (upd H D (.lst (us ++ [v]))) := NxtD.put h1
  refine ⟨us, h1, ?_, c.S.putD h1 c.ne, c.E.nxw P.w, c.so.mono P.w, c.N.trans P, ⟨us ++ [v], acc ++ [y], upd_same, (h2.append (.cons r .nil)).nxw P.w, by rw [← h3]; simp⟩, c.ne⟩
  have a1 := h2.length
  have a2 : ys.length = acc.length + (rest.length + 1) := by rw [← h3]; simp
  rw [sizeLine_eq]
  omega
/-- the list becomes the store's -/
theorem CSt.fin {μ0 : Nat → Addr} {L0 : Nat} {H0 : Hp} {Q : VK} (c : CSt K μ1 L1 H1 D ys J src env σ μ st H []) (N1 : Nxt K μ0 L0 H0 μ1 L1 H1) (hD : H1 D = none) (k : KE K μ0 L0 H0 (.ls st.length) (st ++ [.lst ys]) Q) : Q (.ref D) H := by
  obtain ⟨us, acc, hus, rus, hac⟩ := c.at_
  rw [List.append_nil] at hac
  subst hac
  have hl : (st ++ [Ob.lst acc]).length = st.length + 1 := by simp
  have mu0 : ∀ i, i < st.length → muAt μ st.length D i = μ i := fun i hi => muAt_lt hi
  have N : Nxt K μ0 L0 H0 μ st.length H := N1.trans (c.N.nxt hD)
  have N3 : Nxt K μ0 L0 H0 (muAt μ st.length D) (st ++ [Ob.lst acc]).length H := by
    refine ⟨N.tp, N.fz, fun i hi => ?_, by rw [hl]; exact Nat.le_succ_of_le N.le, N.fr, N.ks, fun i hi hi2 => ?_⟩
    · rw [mu0 i (Nat.lt_of_lt_of_le hi N.le)]; exact N.mu i hi
    · rw [hl] at hi2
      by_cases hs : i < st.length
      · rw [mu0 i hs]; exact N.nw i hi hs
      · have : i = st.length := by omega
        subst this
        rw [muAt_eq]
        exact N1.ks _ hD
  have rr : ∀ {vs : List V} {ws : List W}, Reps K μ st.length H vs ws → Reps K (muAt μ st.length D) (st.length + 1) H vs ws := fun {vs ws} r =>
    r.step (fun _ _ h => h) (fun _ _ h => h) mu0 (Nat.le_succ _)
  have S3 : Sim K (muAt μ st.length D) (st ++ [Ob.lst acc]) H := by
    refine ⟨fun i ob e => ?_, fun i j hi hj e => ?_⟩
    · rw [hl]
      by_cases hi : i < st.length
      · rw [List.getElem?_append_left hi] at e
        rw [mu0 i hi]
        have := c.S.at_ i ob e
        cases ob with
        | lst ws =>
          obtain ⟨vs', q1, q2⟩ := this
          exact ⟨vs', q1, rr q2⟩
      · have : i = st.length := by
          have := lt_of_get e
          rw [hl] at this; omega
        subst this
        rw [List.getElem?_append_right (Nat.le_refl _)] at e
        simp at e
        subst e
        rw [muAt_eq]
        exact ⟨us, hus, rr rus⟩
    · rw [hl] at hi hj
      by_cases h1 : i < st.length
      · by_cases h2 : j < st.length
        · rw [mu0 i h1, mu0 j h2] at e
          exact c.S.inj i j h1 h2 e
        · have : j = st.length := by omega
          subst this
          rw [mu0 i h1, muAt_eq] at e
          exact absurd e (c.ne i h1)
      · have : i = st.length := by omega
        subst this
        by_cases h2 : j < st.length
        · rw [mu0 j h2, muAt_eq] at e
          exact absurd e.symm (c.ne j h2)
        · omega
  have q : Rep K (muAt μ st.length D) (st ++ [Ob.lst acc]).length H (.ref (muAt μ st.length D st.length)) (.ls st.length) := .ls (by rw [hl]; exact Nat.lt_succ_self _)
  rw [muAt_eq] at q
  exact k _ _ _ N3 S3 q
end
theorem comp_run {it : IX} {p : Pat} {t : TX} {m : EX} {σ : L2.St} {H : Hp} {Q : VK} {vs : List Nat} (hp : (p.slots.all fun i => decide (i ∈ vs)) = true) (h : lE X.K (eComp it p t m vs) σ H Q) :
    tLc (lI X.K it) (gPat X.K p) (lT X.K t) (lE X.K m) vs σ H Q := by
  obtain ⟨μ, env, st, w, st', S, E, h, k⟩ := h
  obtain ⟨src, s1, h1, h2⟩ := R.bind_ok h
  obtain ⟨ys, s2, h3, h4⟩ := R.bind_ok h2
  split at h4
  rotate_left
  · cases h4
  rename_i hz
  cases h4
  refine ⟨μ, env, st, src, s1, S, E, h1, fun J μ1 H1 N1 S1 so D hD => ?_⟩
  refine ⟨fun i m0 H => ∃ μ st rest, CSt X.K μ1 s1.length H1 D ys J src (wipeE env vs) (L2.wipe σ vs) μ st H rest ∧ compM src p t m (wipeE env vs) m0 i st = .ok rest s2,
    ⟨_, μ1, s1, ys, CSt.start S1 ((E.nxt N1).wipe vs) so hD, h3⟩, ?_⟩
  rintro i m0 H2 ⟨μ2, st2, rest, c, g⟩
  cases m0 with
  | zero => cases g
  | succ m0 =>
    have q := c.so μ2 st2 H2 Nxt.refl.w c.S i
    unfold compM at g
    split at g
    · rename_i hn
      rw [hn] at q
      cases g
      exact .inl ⟨q, c.fin N1 hD k⟩
    · rename_i x hx
      rw [hx] at q
      obtain ⟨go, yl⟩ := q
      split at g
      · cases g
      · rename_i e1 he1
        refine .inr ⟨go, fun H => ∃ μ st rest, CSt X.K μ1 s1.length H1 D ys J src (wipeE env vs) (L2.wipe σ vs) μ st H rest ∧ compM src p t m (wipeE env vs) m0 (i + 1) st = .ok rest s2, fun H' hN => ⟨m0, Nat.lt_succ_self _, hN⟩, fun xv H3 y => ?_⟩
        obtain ⟨N3, S3, r3⟩ := yl xv H3 y
        have c3 := c.step N3 S3
        refine gPat_run (vs0 := vs) S3 c3.E r3 he1 fun σ4 E4 hw => ⟨by rw [hw (nmem_of hp), wipe_wipe], ?_⟩
        cases et : t e1 st2 with
        | err => rw [et] at g; cases g
        | ok bb s5 =>
          rw [et] at g
          refine ⟨μ2, e1, st2, bb, s5, S3, E4, et, fun μ5 H5 N5 S5 => ?_⟩
          have c5 := c3.step N5 S5
          cases bb with
          | false =>
            simp only [Bool.false_eq_true, if_false]
            exact ⟨μ5, s5, rest, c5, g⟩
          | true =>
            simp only [if_true]
            cases em : m e1 s5 with
            | err => simp only [em] at g; cases g
            | ok y s6 =>
              simp only [em] at g
              cases ec : compM src p t m (wipeE env vs) m0 (i + 1) s6 with
              | err => simp only [ec] at g; cases g
              | ok ys' s7 =>
                simp only [ec] at g
                cases g
                refine ⟨μ5, e1, s5, y, s6, S5, E4.nxt N5, em, fun μ6 H6 yv N6 S6 r6 => ?_⟩
                obtain ⟨us, d6, hz6, c7⟩ := (c5.step N6 S6).app r6 hz
                exact ⟨us, d6, hz6, μ6, s6, ys', c7, ec⟩
theorem blk_ok {N : List Str} {sc : Scope} (hX : In X N sc) (h : blkC N sc scope own = true) : BlkOk X.N X.env.scope scope own := by
  rw [hX.n, hX.s]
  exact blkOk_by h
/-- [elt for tg in iter if ..] -/
theorem re_comp {N : List Str} {sc : Scope} (hX : In X N sc) {it : IX} {p : Pat} {t : TX} {m : EX} (hi : RI X tg iter it) (ok : blkC N sc scope own = true) (hp : (p.slots.all fun i => decide (i ∈ own.map (·.2))) = true)
    (hg : ∀ (s : Shared) (H : Hp) (C : Addr) (cl : List (Str × Addr)) (fp : List Addr), RG (X.blk s H scope (compEnvC scope cl C X.env) fp) tg p) (ht : ∀ (s : Shared) (H : Hp) (C : Addr) (cl : List (Str × Addr)) (fp : List Addr), RTs (X.blk s H scope (compEnvC scope cl C X.env) fp) ifs t)
    (he : ∀ (s : Shared) (H : Hp) (C : Addr) (cl : List (Str × Addr)) (fp : List Addr), RE (X.blk s H scope (compEnvC scope cl C X.env) fp) elt m) (hs : ∀ x, foldedSetIterable iter X.env x = pure x := by intro _; rfl) :
    RE X (.ListComp elt [⟨tg, iter, ifs, 0⟩] scope pos) (eComp it p t m (own.map (·.2))) :=
  pe_imp (pe_lc hX.calm (by rw [hX.n]; exact hX.nd) hi (blk_ok hX ok) hg ht he hs) fun σ H Q h => comp_run hp h
theorem rs_setComp {N : List Str} {sc : Scope} (hX : In X N sc) {i : Nat} {y : Str} {py : Pos} {spos : Pos} {it : IX} {p : Pat} {t : TX} {m : EX} (hy : ixOk N i y = true) (hyl : locB sc y = true)
    (hsw : ∀ env : Env, env.scope = sc → swapsWith (.ListComp elt [⟨tg, iter, ifs, 0⟩] scope pos) (some (.Name y py)) spos.line env = pure true) (hi : RI X tg iter it) (ok : blkC N sc scope own = true) (hp : (p.slots.all fun i => decide (i ∈ own.map (·.2))) = true)
    (hg : ∀ (s : Shared) (H : Hp) (C : Addr) (cl : List (Str × Addr)) (fp : List Addr), RG (X.blk s H scope (compEnvC scope cl C X.env) fp) tg p) (ht : ∀ (s : Shared) (H : Hp) (C : Addr) (cl : List (Str × Addr)) (fp : List Addr), RTs (X.blk s H scope (compEnvC scope cl C X.env) fp) ifs t)
    (he : ∀ (s : Shared) (H : Hp) (C : Addr) (cl : List (Str × Addr)) (fp : List Addr), RE (X.blk s H scope (compEnvC scope cl C X.env) fp) elt m) (hs : ∀ x, foldedSetIterable iter X.env x = pure x := by intro _; rfl) :
    RS X (.Assign [.Name y py] (.ListComp elt [⟨tg, iter, ifs, 0⟩] scope pos) spos) (sPat (.nm i) (eComp it p t m (own.map (·.2)))) :=
  ps_imp (ps_setLc (i := i) hX.calm (by rw [hX.n]; exact hX.nd) (by rw [hX.n]; exact of_decide_eq_true hy) (locB_ok hX hyl) (hsw X.env hX.s) hi (blk_ok hX ok) hg ht he hs) fun D σ H h => comp_run hp (asg_run h)
end
end Rx

/-! RxH: expressions on a store of their own, defs, their calls. -/
namespace Rx
open PySem PySem.Spec PyProof.Rows L2

/-! ### a value moved up the store -/
mutual
def W.up (L : Nat) : W → W
  | .tup xs => .tup (W.ups L xs)
  | .ls n => .ls (L + n)
  | w => w
def W.ups (L : Nat) : List W → List W
  | [] => []
  | x :: xs => x.up L :: W.ups L xs
end
def Ob.up (L : Nat) : Ob → Ob
  | .lst xs => .lst (W.ups L xs)
def Ob.low (L : Nat) : Ob → Bool
  | .lst xs => W.lows L xs
section
variable {K : PySem.W.Frag} {μ μ' : Nat → Addr} {L L' M : Nat} {H H' : Hp}
mutual
theorem Rep.up (mu : ∀ i, i < L → μ' (M + i) = μ i) (le : M + L ≤ L') : ∀ {v : V} {w : W}, Rep K μ L H v w → Rep K μ' L' H v (w.up M)
  | _, _, .non => .non
  | _, _, .bl b => .bl b
  | _, _, .int i => .int i
  | _, _, .str x => .str x
  | _, _, .ty n => .ty n
  | _, _, .tup h r => .tup h (Reps.up mu le r)
  | _, _, .ls (n := n) h => by
    rw [← mu n h]
    exact .ls (Nat.lt_of_lt_of_le (Nat.add_lt_add_left h M) le)
  | _, _, .frz h => .frz h
theorem Reps.up (mu : ∀ i, i < L → μ' (M + i) = μ i) (le : M + L ≤ L') : ∀ {vs : List V} {ws : List W}, Reps K μ L H vs ws → Reps K μ' L' H vs (W.ups M ws)
  | _, _, .nil => .nil
  | _, _, .cons r rs => .cons (Rep.up mu le r) (Reps.up mu le rs)
end
end
/-- what a run on a store of its own hands back to a store -/
def pureR (st : Sto) (r : R W) : R W := match r with
  | .err => .err
  | .ok w s => if w.low 0 = true then .ok w st else match w with
    | .ls n => match s[n]? with
      | some (.lst xs) => if W.lows 0 xs = true then .ok (.ls st.length) (st ++ [.lst xs]) else .ok (.ls (st.length + n)) (st ++ s.map (Ob.up st.length))
      | none => .err
    | w => .ok (w.up st.length) (st ++ s.map (Ob.up st.length))
def pureT (st : Sto) (r : R Bool) : R Bool := match r with
  | .err => .err
  | .ok b _ => .ok b st
section
variable {K : PySem.W.Frag} {μ μ' μ1 : Nat → Addr} {st s : Sto} {H H1 : Hp} {w : W} {v : V}
theorem Nxt.from0 (N : Nxt K μ 0 H μ' s.length H1) : Nxt K μ st.length H μ st.length H1 :=
  ⟨N.tp, N.fz, fun _ _ => rfl, Nat.le_refl _, fun a o h _ => N.fr a o h fun i hi => absurd hi (Nat.not_lt_zero _), N.ks, fun i h h' => absurd h (Nat.not_le_of_lt h')⟩
theorem Sim.keep (S : Sim K μ st H) (N : Nxt K μ st.length H μ st.length H1) (hf : ∀ a o, H a = some o → H1 a = some o) : Sim K μ st H1 := by
  refine ⟨fun i o e => ?_, S.inj⟩
  have q := S.at_ i o e
  cases o with
  | lst ws =>
    obtain ⟨vs, h1, h2⟩ := q
    exact ⟨vs, hf _ _ h1, h2.nxt N⟩
theorem Sim.nil : Sim K μ [] H := ⟨fun i o e => by simp at e, fun i j h => absurd h (Nat.not_lt_zero _)⟩
/-- the list D is the store's from now on -/
theorem Sim.adopt {D : Addr} {vs : List V} {xs : List W} (S : Sim K μ st H) (h : H D = some (.lst vs)) (r : Reps K μ st.length H vs xs) (hne : ∀ i, i < st.length → μ i ≠ D) : Sim K (muAt μ st.length D) (st ++ [.lst xs]) H := by
  have hl : (st ++ [Ob.lst xs]).length = st.length + 1 := by simp
  have rr : ∀ {vs : List V} {ws : List W}, Reps K μ st.length H vs ws → Reps K (muAt μ st.length D) (st.length + 1) H vs ws := fun {vs ws} r =>
    r.step (fun _ _ h => h) (fun _ _ h => h) (fun i hi => muAt_lt hi) (Nat.le_succ _)
  refine ⟨fun i ob e => ?_, fun i j hi hj e => ?_⟩
  · rw [hl]
    by_cases hi : i < st.length
    · rw [List.getElem?_append_left hi] at e
      rw [muAt_lt hi]
      have := S.at_ i ob e
      cases ob with
      | lst ws =>
        obtain ⟨vs', q1, q2⟩ := this
        exact ⟨vs', q1, rr q2⟩
    · have : i = st.length := by
        have := lt_of_get e
        rw [hl] at this; omega
      subst this
      rw [List.getElem?_append_right (Nat.le_refl _)] at e
      simp at e
      subst e
      rw [muAt_eq]
      exact ⟨vs, h, rr r⟩
  · rw [hl] at hi hj
    by_cases h1 : i < st.length
    · by_cases h2 : j < st.length
      · rw [muAt_lt h1, muAt_lt h2] at e
        exact S.inj i j h1 h2 e
      · have : j = st.length := by omega
        subst this
        rw [muAt_lt h1, muAt_eq] at e
        exact absurd e (hne i h1)
    · have : i = st.length := by omega
      subst this
      by_cases h2 : j < st.length
      · rw [muAt_lt h2, muAt_eq] at e
        exact absurd e.symm (hne j h2)
      · omega
/-- the other store's objects behind this one's -/
def muJoin (μ : Nat → Addr) (L : Nat) (μ' : Nat → Addr) : Nat → Addr := fun i => if i < L then μ i else μ' (i - L)
theorem muJoin_lt {L i : Nat} (h : i < L) : muJoin μ L μ' i = μ i := if_pos h
theorem muJoin_up {L i : Nat} : muJoin μ L μ' (L + i) = μ' i := by
  unfold muJoin
  rw [if_neg (by omega)]
  congr 1
  omega
theorem Sim.join (S : Sim K μ st H) (N : Nxt K μ 0 H μ' s.length H1) (S1 : Sim K μ' s H1) : Sim K (muJoin μ st.length μ') (st ++ s.map (Ob.up st.length)) H1 ∧ Nxt K μ st.length H (muJoin μ st.length μ') (st ++ s.map (Ob.up st.length)).length H1 := by
  have hl : (st ++ s.map (Ob.up st.length)).length = st.length + s.length := by simp
  have hf : ∀ a o, H a = some o → H1 a = some o := fun a o h => N.fr a o h fun i hi => absurd hi (Nat.not_lt_zero _)
  have S0 : Sim K μ st H1 := S.keep N.from0 hf
  have N1 : Nxt K μ st.length H (muJoin μ st.length μ') (st.length + s.length) H1 := ⟨N.tp, N.fz, fun i hi => muJoin_lt hi, Nat.le_add_right _ _, fun a o h _ => hf a o h, N.ks, fun i h h' => by
    have : i = st.length + (i - st.length) := by omega
    rw [this, muJoin_up]
    exact N.nw _ (Nat.zero_le _) (by omega)⟩
  have apart : ∀ i j, i < st.length → j < s.length → μ i ≠ μ' j := fun i j hi hj e => by
    have h1 := N.nw j (Nat.zero_le _) hj
    obtain ⟨xs, q⟩ := S.isL hi
    rw [e, h1] at q
    cases q
  refine ⟨⟨fun i ob e => ?_, fun i j hi hj e => ?_⟩, by rw [hl]; exact N1⟩
  · rw [hl]
    by_cases hi : i < st.length
    · rw [List.getElem?_append_left hi] at e
      rw [muJoin_lt hi]
      have := S0.at_ i ob e
      cases ob with
      | lst ws =>
        obtain ⟨vs', q1, q2⟩ := this
        exact ⟨vs', q1, q2.step (fun _ _ h => h) (fun _ _ h => h) (fun i hi => muJoin_lt hi) (Nat.le_add_right _ _)⟩
    · rw [List.getElem?_append_right (Nat.le_of_not_lt hi)] at e
      have hi2 : i = st.length + (i - st.length) := by omega
      rw [hi2, muJoin_up]
      rw [List.getElem?_map] at e
      cases e2 : s[i - st.length]? with
      | none => rw [e2] at e; cases e
      | some o2 =>
        rw [e2] at e
        cases e
        have := S1.at_ _ o2 e2
        cases o2 with
        | lst ws =>
          obtain ⟨vs', q1, q2⟩ := this
          exact ⟨vs', q1, q2.up (fun i hi => muJoin_up) (Nat.le_refl _)⟩
  · rw [hl] at hi hj
    by_cases h1 : i < st.length
    · by_cases h2 : j < st.length
      · rw [muJoin_lt h1, muJoin_lt h2] at e
        exact S.inj i j h1 h2 e
      · have hj2 : j = st.length + (j - st.length) := by omega
        rw [muJoin_lt h1, hj2, muJoin_up] at e
        exact absurd e (apart _ _ h1 (by omega))
    · have hi2 : i = st.length + (i - st.length) := by omega
      by_cases h2 : j < st.length
      · rw [muJoin_lt h2, hi2, muJoin_up] at e
        exact absurd e.symm (apart _ _ h2 (by omega))
      · have hj2 : j = st.length + (j - st.length) := by omega
        rw [hi2, hj2, muJoin_up, muJoin_up] at e
        have := S1.inj _ _ (by omega) (by omega) e
        omega
theorem KE.pure {st' : Sto} {r : R W} {Q : VK} (S : Sim K μ st H) (h : pureR st r = .ok w st') (k : KE K μ st.length H w st' Q) : ∃ w0 s0, r = .ok w0 s0 ∧ KE K μ 0 H w0 s0 Q := by
  cases r with
  | err => cases h
  | ok w0 s0 =>
    refine ⟨w0, s0, rfl, fun μ' H' v N S' r => ?_⟩
    have hf : ∀ a o, H a = some o → H' a = some o := fun a o h => N.fr a o h fun i hi => absurd hi (Nat.not_lt_zero _)
    have N0 : Nxt K μ st.length H μ st.length H' := N.from0
    unfold pureR at h
    simp only [] at h
    split at h
    · cases h
      exact k _ _ _ N0 (S.keep N0 hf) (r.cut (M := 0) (fun i h => absurd h (Nat.not_lt_zero _)) (Nat.zero_le _) (by assumption))
    · split at h
      · rename_i n _
        obtain ⟨rfl, hn⟩ := rep_ls r
        split at h
        · rename_i xs e1
          split at h
          · rename_i hlow
            cases h
            obtain ⟨vs, h1, h2⟩ := S'.lstAt e1
            have r2 : Reps K μ st.length H' vs xs := h2.cut (M := 0) (fun i h => absurd h (Nat.not_lt_zero _)) (Nat.zero_le _) hlow
            have hl : (st ++ [Ob.lst xs]).length = st.length + 1 := by simp
            have hnone := N.nw n (Nat.zero_le _) hn
            have S2 : Sim K (muAt μ st.length (μ' n)) (st ++ [.lst xs]) H' := (S.keep N0 hf).adopt h1 r2 fun i hi e => by
              obtain ⟨ys, q⟩ := S.isL hi
              rw [e, hnone] at q
              cases q
            refine k _ _ _ ⟨N.tp, N.fz, fun i hi => muAt_lt hi, by rw [hl]; exact Nat.le_succ _, fun a o h _ => hf a o h, N.ks, fun i hi hi2 => ?_⟩ S2 ?_
            · rw [hl] at hi2
              have : i = st.length := by omega
              subst this
              rw [muAt_eq]
              exact hnone
            · have q : Rep K (muAt μ st.length (μ' n)) (st ++ [Ob.lst xs]).length H' (.ref (muAt μ st.length (μ' n) st.length)) (.ls st.length) := .ls (by rw [hl]; exact Nat.lt_succ_self _)
              rw [muAt_eq] at q
              exact q
          · cases h
            obtain ⟨S2, N2⟩ := S.join N S'
            refine k _ _ _ N2 S2 ?_
            exact r.up (M := st.length) (fun i hi => muJoin_up) (by simp)
        · cases h
      · cases h
        obtain ⟨S2, N2⟩ := S.join N S'
        exact k _ _ _ N2 S2 (r.up (M := st.length) (fun i hi => muJoin_up) (by simp))
theorem KT.pure {st' : Sto} {b : Bool} {r : R Bool} {Q : Bool → Hp → Prop} (S : Sim K μ st H) (h : pureT st r = .ok b st') (k : KT K μ st.length H b st' Q) : ∃ s0, r = .ok b s0 ∧ KT K μ 0 H b s0 Q := by
  cases r with
  | err => cases h
  | ok w0 s0 =>
    cases h
    refine ⟨s0, rfl, fun μ' H' N S' => ?_⟩
    have N0 : Nxt K μ st.length H μ st.length H' := N.from0
    exact k _ _ N0 (S.keep N0 fun a o h => N.fr a o h fun i hi => absurd hi (Nat.not_lt_zero _))
end

/-! ### an expression by these slots alone -/
def pickE (env : Env') (vs : List Nat) : Env' := (List.range env.length).map fun i => if vs.contains i then (env[i]?).join else none
def lowE (env : Env') (vs : List Nat) : Bool := vs.all fun i => match env[i]? with
  | some (some w) => w.low 0
  | _ => true
/-- on a store of its own if it asks no object of this one -/
def frE (vs : List Nat) (m : EX) : EX := fun env st => if lowE env vs = true then pureR st (m (pickE env vs) []) else m env st
def frT (vs : List Nat) (m : TX) : TX := fun env st => if lowE env vs = true then pureT st (m (pickE env vs) []) else m env st
theorem pickE_get {env : Env'} {vs : List Nat} {i : Nat} {w : W} (h : (pickE env vs)[i]? = some (some w)) : i ∈ vs ∧ env[i]? = some (some w) := by
  unfold pickE at h
  rw [List.getElem?_map] at h
  by_cases hi : i < env.length
  · rw [List.getElem?_range hi] at h
    simp only [Option.map_some, Option.some.injEq] at h
    split at h
    · rename_i hc
      rw [List.contains_iff_mem] at hc
      refine ⟨hc, ?_⟩
      cases e : env[i]? with
      | none => rw [e] at h; cases h
      | some o => rw [e] at h; exact congrArg some h
    · cases h
  · rw [List.getElem?_eq_none (by simpa using hi)] at h
    cases h
theorem EnvR.pick {K : PySem.W.Frag} {μ : Nat → Addr} {L : Nat} {H : Hp} {env : Env'} {σ : L2.St} {vs : List Nat} (E : EnvR K μ L H env σ) (h : lowE env vs = true) : EnvR K μ 0 H (pickE env vs) σ := by
  refine ⟨by unfold pickE; rw [List.length_map, List.length_range]; exact E.len, fun i w q => ?_⟩
  obtain ⟨hm, he⟩ := pickE_get q
  obtain ⟨v, h1, h2⟩ := E.at_ i w he
  refine ⟨v, h1, ?_⟩
  have := List.all_eq_true.mp h i hm
  rw [he] at this
  exact h2.cut (M := 0) (fun i h => absurd h (Nat.not_lt_zero _)) (Nat.zero_le _) this
section
variable {X : Cx} {e : Expr}
theorem re_fr {m : EX} (vs : List Nat) (h : RE X e m) : RE X e (frE vs m) := pe_imp h fun σ H Q ⟨μ, env, st, w, st', S, E, h, k⟩ => by
  unfold frE at h
  split at h
  · rename_i hl
    obtain ⟨w0, s0, h1, k1⟩ := KE.pure S h k
    exact ⟨μ, _, [], w0, s0, Sim.nil, E.pick hl, h1, k1⟩
  · exact ⟨μ, env, st, w, st', S, E, h, k⟩
theorem rt_fr {m : TX} (vs : List Nat) (h : RT X e m) : RT X e (frT vs m) := pt_imp h fun σ H Q ⟨μ, env, st, w, st', S, E, h, k⟩ => by
  unfold frT at h
  split at h
  · rename_i hl
    obtain ⟨s0, h1, k1⟩ := KT.pure S h k
    exact ⟨μ, _, [], w, s0, Sim.nil, E.pick hl, h1, k1⟩
  · exact ⟨μ, env, st, w, st', S, E, h, k⟩
end

theorem lA_mono {K : PySem.W.Frag} {n : AX} {σ : L2.St} {H : Hp} {Q Q' : List V → Hp → Prop} (h : lA K n σ H Q) (i : ∀ vs H1, Q vs H1 → Q' vs H1) : lA K n σ H Q' := by
  obtain ⟨μ, env, st, ws, st', S, E, h, k⟩ := h
  exact ⟨μ, env, st, ws, st', S, E, h, fun μ1 H1 vs N S1 r => i _ _ (k μ1 H1 vs N S1 r)⟩
/-! ### calls -/
/-- what a run leaves behind is dropped where nothing asks for it -/
def trimR (L : Nat) (r : R W) : R W := match r with
  | .err => .err
  | .ok w s => if (s.take L).all (Ob.low L) = true then
      if w.low L = true then .ok w (s.take L) else match w with
      | .ls n => match s[n]? with
        | some (.lst xs) => if W.lows L xs = true then .ok (.ls L) (s.take L ++ [.lst xs]) else .ok w s
        | none => .err
      | w => .ok w s
    else .ok w s
def callM (f : FX) : FX := fun ws st => if W.lows 0 ws = true then pureR st (f ws []) else trimR st.length (f ws st)
section
variable {K : PySem.W.Frag} {μ μ' : Nat → Addr} {st s : Sto} {H H1 : Hp} {w : W} {v : V}
theorem KE.trim {L : Nat} {st' : Sto} {r : R W} {Q : VK} (h : trimR L r = .ok w st') (k : KE K μ L H w st' Q) : ∃ w0 s0, r = .ok w0 s0 ∧ KE K μ L H w0 s0 Q := by
  cases r with
  | err => cases h
  | ok w0 s0 =>
    refine ⟨w0, s0, rfl, fun μ' H' v N S' r => ?_⟩
    unfold trimR at h
    simp only [] at h
    split at h
    · rename_i hlow
      have hlen : (s0.take L).length = L := by rw [List.length_take, Nat.min_eq_left N.le]
      have N0 : Nxt K μ L H μ' L H' := ⟨N.tp, N.fz, N.mu, Nat.le_refl _, N.fr, N.ks, fun i h h' => absurd h (Nat.not_le_of_lt h')⟩
      have S0 : Sim K μ' (s0.take L) H' := by
        refine ⟨fun i o e => ?_, fun i j hi hj e => S'.inj i j (by rw [hlen] at hi; exact Nat.lt_of_lt_of_le hi N.le) (by rw [hlen] at hj; exact Nat.lt_of_lt_of_le hj N.le) e⟩
        have hi := lt_of_get e
        rw [hlen] at hi ⊢
        have hm : o ∈ s0.take L := List.mem_of_getElem? e
        rw [List.getElem?_take_of_lt hi] at e
        have q := S'.at_ i o e
        have hl := List.all_eq_true.mp hlow o hm
        cases o with
        | lst ws =>
          obtain ⟨vs, h1, h2⟩ := q
          exact ⟨vs, h1, h2.cut (M := L) (fun i _ _ => rfl) (Nat.le_refl _) hl⟩
      split at h
      · cases h
        exact k _ _ _ (by rw [hlen]; exact N0) S0 (by rw [hlen]; exact r.cut (M := L) (fun i _ _ => rfl) (Nat.le_refl _) (by assumption))
      · rename_i hnl
        split at h
        · rename_i n
          obtain ⟨rfl, hn⟩ := rep_ls r
          split at h
          · rename_i xs e1
            split at h
            · rename_i hxs
              cases h
              obtain ⟨vs, h1, h2⟩ := S'.lstAt e1
              have hnL : L ≤ n := by
                apply Nat.le_of_not_lt
                intro hlt
                apply hnl
                show Nat.blt n L = true
                rw [Nat.blt_eq]; exact hlt
              have r2 : Reps K μ' (s0.take L).length H' vs xs := h2.cut (M := L) (fun i _ _ => rfl) (by rw [hlen]; exact Nat.le_refl _) hxs
              have hl : (s0.take L ++ [Ob.lst xs]).length = L + 1 := by rw [List.length_append, hlen]; rfl
              have S2 : Sim K (muAt μ' (s0.take L).length (μ' n)) (s0.take L ++ [.lst xs]) H' := S0.adopt h1 r2 fun i hi e => by
                rw [hlen] at hi
                have := S'.inj i n (Nat.lt_of_lt_of_le hi N.le) hn e
                omega
              rw [hlen] at S2
              refine k _ _ _ ⟨N.tp, N.fz, fun i hi => (muAt_lt hi).trans (N.mu i hi), by rw [hl]; exact Nat.le_succ _, N.fr, N.ks, fun i hi hi2 => ?_⟩ S2 ?_
              · rw [hl] at hi2
                have : i = L := by omega
                subst this
                rw [muAt_eq]
                exact N.nw n hnL hn
              · have q : Rep K (muAt μ' L (μ' n)) (s0.take L ++ [Ob.lst xs]).length H' (.ref (muAt μ' L (μ' n) L)) (.ls L) := .ls (by rw [hl]; exact Nat.lt_succ_self _)
                rw [muAt_eq] at q
                exact q
            · cases h
              exact k _ _ _ N S' r
          · cases h
        · cases h
          exact k _ _ _ N S' r
    · cases h
      exact k _ _ _ N S' r
theorem call_in {f : FX} {vs : List V} {Q : VK} (h : lC K (callM f) vs H Q) : lC K f vs H Q := by
  obtain ⟨μ, st, ws, w, st', S, r, e, k⟩ := h
  unfold callM at e
  split at e
  · rename_i hl
    obtain ⟨w0, s0, h1, k1⟩ := KE.pure S e k
    exact ⟨μ, [], ws, w0, s0, Sim.nil, r.cut (M := 0) (fun i h => absurd h (Nat.not_lt_zero _)) (Nat.zero_le _) hl, h1, k1⟩
  · obtain ⟨w0, s0, h1, k1⟩ := KE.trim e k
    exact ⟨μ, st, ws, w0, s0, S, r, h1, k1⟩
end

/-! ### defs -/
structure Gx (X : Cx) (P : Program) (w : World) (K : PySem.W.Frag) (mg : Str → Option Value) (base : Heap) : Prop where
  prog : X.prog = P
  w : X.w = w
  K : X.K = K
  mg : X.mg = mg
  base : X.base = base
def mkFn (nN np : Nat) (body : SX) : FX := fun ws st => if ws.length = np then match body (ws.map some ++ List.replicate (nN - np) none) st with
  | .ok (.rt w) s => .ok w s
  | .ok (.nx _) s => .ok .non s
  | _ => .err else .err
def lP (K : PySem.W.Frag) (n : Nat) (f : FX) : Sp := fun vs H Q _ => vs.length = n ∧ lC K f vs H Q
section
variable {P : Program} {w : World} {K : PySem.W.Frag} {mg : Str → Option Value} {base : Heap}
theorem envR_start {μ : Nat → Addr} {L : Nat} {H : Hp} {N : List Str} {vs : List V} {ws : List W} {np : Nat} (r : Reps K μ L H vs ws) (hl : ws.length = np) : EnvR K μ L H (ws.map some ++ List.replicate (N.length - np) none) (L2.start N vs) := by
  have hlv := r.length
  unfold L2.start
  refine ⟨by simp [hlv, hl], fun i w h => ?_⟩
  by_cases hi : i < ws.length
  · rw [List.getElem?_append_left (by simpa using hi), List.getElem?_map] at h
    cases e : ws[i]? with
    | none => rw [e] at h; cases h
    | some w' =>
      rw [e] at h
      cases h
      obtain ⟨v, h1, h2⟩ := r.get e
      exact ⟨v, by rw [List.getElem?_append_left (by simpa [hlv] using hi), List.getElem?_map, h1]; rfl, h2⟩
  · rw [List.getElem?_append_right (by simpa using hi), List.getElem?_replicate] at h
    split at h <;> cases h
theorem fn_ok {x qual : Str} {st : Stmt} {f : Addr} {fd : FuncData} {N ps : List Str} {k : Nat} {body : SX} (F : Fun K x qual st f fd) (S : FnScope N ps (defScope st))
    (hb : ∀ X, InF X N (defScope st) → Gx X P w K mg base → Room k X.A → RSs X (defBody st) body) : FnOk P w K mg base CX0 (k + 1) f fd ps (lP K ps.length (mkFn N.length ps.length body)) := by
  refine F.ok S (fun vs H Q E h => h.1) fun cdv A outer s H vs Q E hr h => ?_
  obtain ⟨hl, μ, st0, ws, w0, st', Sm, r, e, k0⟩ := h
  refine ⟨_, hb _ ⟨⟨rfl, rfl, rfl, rfl, S.nd, hr.mono (Nat.zero_le _)⟩, fun _ _ => rfl⟩ ⟨rfl, rfl, rfl, rfl, rfl⟩ hr, ?_⟩
  unfold mkFn at e
  split at e
  · rename_i hlen
    split at e
    · rename_i w1 s1 he
      cases e
      exact ⟨μ, _, st0, _, _, Sm, envR_start r hlen, he, fun μ' H' N' S' v rv => k0 _ _ v N' S' rv⟩
    · rename_i e1 s1 he
      cases e
      exact ⟨μ, _, st0, _, _, Sm, envR_start r hlen, he, fun μ' H' N' S' σ' E' => k0 _ _ _ N' S' .non⟩
    · cases e
  · cases e
/-- a look at the names of a def's scope -/
def scB (N P : List Str) (sc : Scope) : Bool :=
  decide (sc.kind = .function) && !sc.isCoroutine && !sc.isGenerator && decide N.Nodup && decide (N.take P.length = P) && P.all (fun x => decide (sc.names.lookup x = some .local) || decide (sc.names.lookup x = some .cell)) && sc.names.all (fun y => !decide (y.2 = .free))
theorem scB_ok {N P : List Str} {sc : Scope} (h : scB N P sc = true) : FnScope N P sc := by
  unfold scB at h
  simp only [Bool.and_eq_true, Bool.not_eq_true', decide_eq_true_eq, List.all_eq_true, Bool.or_eq_true, decide_eq_false_iff_not] at h
  obtain ⟨⟨⟨⟨⟨⟨h1, h2⟩, h3⟩, h4⟩, h5⟩, h6⟩, h7⟩ := h
  exact ⟨h1, h2, h3, h4, h5, h6, h7⟩
/-- a def that may be called by its name: level k, its parameters, its mirror -/
structure Cl (P : Program) (w : World) (K : PySem.W.Frag) (mg : Str → Option Value) (base : Heap) (k : Nat) (x : Str) (ps : List Str) (f : FX) : Prop where
  ex : ∃ (a : Addr) (fd : FuncData), FnOk P w K mg base CX0 k a fd ps (lP K ps.length f) ∧ mg x = some (.ref a) ∧ PySem.W.keepIn K (.ref a) = true ∧ Binds K fd ps [] ∧
    ∀ (s : Shared) (ws : List Value), ws.length = ps.length → BindsTo s fd ⟨[], ps.zip ws⟩ (ps.zip ws)
theorem Cl.mono {j k : Nat} {x : Str} {ps : List Str} {f : FX} (c : Cl P w K mg base j x ps f) (h : j ≤ k) : Cl P w K mg base k x ps f := by
  obtain ⟨a, fd, F, h2, h3, h4, h5⟩ := c.ex
  exact ⟨a, fd, F.mono h, h2, h3, h4, h5⟩
theorem cl_of {x y : Str} {st : Stmt} {a : Addr} {fd : FuncData} {N ps : List Str} {k : Nat} {body : SX} (F : Fun K y y st a fd) (hm : mg x = some (.ref a)) (S : scB N ps (defScope st) = true)
    (hbd : ∀ (kV doc pm : Value) (an : Option Addr) (cdv ct : Value) (us : List Value), us.length = ps.length → bindArgs (PySem.W.fnOf y y (defArgs st) (defBody st) (defScope st) .none kV doc pm an cdv ct) ⟨us, []⟩ = pure (ps.zip us))
    (hbk : ∀ (kV doc pm : Value) (an : Option Addr) (cdv ct : Value) (us : List Value), us.length = ps.length → bindArgs (PySem.W.fnOf y y (defArgs st) (defBody st) (defScope st) .none kV doc pm an cdv ct) ⟨[], ps.zip us⟩ = pure (ps.zip us))
    (hb : ∀ X, InF X N (defScope st) → Gx X P w K mg base → Room k X.A → RSs X (defBody st) body) : Cl P w K mg base (k + 1) x ps (mkFn N.length ps.length body) := by
  refine ⟨a, fd, fn_ok F (scB_ok S) hb, hm, F.kp, F.binds hbd, ?_⟩
  obtain ⟨oc, od, kV, doc, pm, an, cdv, ct, osl, rfl, lk, hcd⟩ := F.ex
  exact fun s ws hl => .of_eq (hbk kV doc pm an cdv ct ws hl)
end
section
variable {X : Cx} {P : Program} {w : World} {K : PySem.W.Frag} {mg : Str → Option Value} {base : Heap} {N : List Str} {sc : Scope} {k j : Nat} {x : Str} {ps : List Str} {f : FX} {e : Expr} {es : List Expr} {p pos : Pos} {n : AX} {kws : List Keyword}
theorem call_sp {n : Nat} {vs : List V} {H : Hp} {Q : VK} (hl : ∀ (ws : List W) (st : Sto) (r : W) (st' : Sto), f ws st = .ok r st' → ws.length = n) (h : lC K (callM f) vs H Q) : lP K n f vs H Q E0 := by
  have h1 := call_in h
  obtain ⟨μ, st, ws, w, st', S, r, e, k⟩ := h1
  exact ⟨by rw [r.length]; exact hl _ _ _ _ e, μ, st, ws, w, st', S, r, e, k⟩
/-- a mirror takes so many values -/
def Ar (n : Nat) (f : FX) : Prop := ∀ (ws : List W) (st : Sto) (r : W) (st' : Sto), f ws st = .ok r st' → ws.length = n
theorem ar_mk {nN np : Nat} {body : SX} : Ar np (mkFn nN np body) := fun ws st r st' h => by
  unfold mkFn at h
  split at h
  · assumption
  · cases h
theorem re_call (hX : In X N sc) (G : Gx X P w K mg base) (c : Cl P w K mg base k x ps f) (ar : Ar ps.length f) (hr : Room j X.A) (hk : k ≤ j) (hg : glB sc x = true) (ha : RA X (e :: es) n)
    (hdb : (x == ("__debug__" : Str)) = false := by decide) (he : starEach (e :: es) X.env = (false, eval e X.env) :: starEach es X.env := by rfl) (hpl : (backTo pos (starEach es X.env)).any (·.1) = false := by rfl) :
    RE X (.Call (.Name x p) (e :: es) [] pos) (eCall (callM f) n) := by
  obtain ⟨rfl, rfl, rfl, rfl, rfl⟩ := G
  obtain ⟨a, fd, F, hm, kp, b, _⟩ := c.ex
  refine pe_imp (pe_call F (hr.mono hk) (hX.gl hg) hm kp b .nil pass0 ha hdb he hpl) fun σ H Q h => ?_
  have h1 := call_run h
  refine lA_mono h1 fun vs H1 q => ?_
  rw [List.append_nil]
  exact call_sp ar q
theorem re_call0 (hX : In X N sc) (G : Gx X P w K mg base) (c : Cl P w K mg base k x ps f) (ar : Ar ps.length f) (hr : Room j X.A) (hk : k ≤ j) (hg : glB sc x = true)
    (hdb : (x == ("__debug__" : Str)) = false := by decide) :
    RE X (.Call (.Name x p) [] [] pos) (eCall (callM f) aNil) := by
  obtain ⟨rfl, rfl, rfl, rfl, rfl⟩ := G
  obtain ⟨a, fd, F, hm, kp, b, _⟩ := c.ex
  refine pe_imp (pe_call0 F (hr.mono hk) (hX.gl hg) hm kp b .nil pass0 hdb) fun σ H Q ⟨μ, env, st, w, st', S, E, h, k⟩ => ?_
  exact call_sp ar ⟨μ, st, [], w, st', S, .nil, h, k⟩
abbrev RK (X : Cx) (kws : List Keyword) (n : AX) : Prop := PK X kws (lA X.K n)
theorem pk_imp {t t' : TA} (h : PK X kws t) (i : ∀ σ H Q, t' σ H Q → t σ H Q) : PK X kws t' := ⟨fun pos pins s σ H Q I q => h.run pos pins s σ H Q I (i σ H Q q)⟩
theorem rk_nil : RK X [] aNil := pk_imp pk_nil fun σ H Q ⟨μ, env, st, w, st', S, E, h, k⟩ => by
  cases h
  exact k _ _ _ Nxt.refl S .nil
theorem rk_cons {nm : Option Str} {kpos : Pos} {m : EX} (ha : RE X e m) (hr : RK X kws n) : RK X (⟨nm, e, kpos⟩ :: kws) (aCons m n) :=
  pk_imp (pk_cons ha hr) fun σ H Q ⟨μ, env, st, w, st', S, E, h, k⟩ => by
    obtain ⟨x, s1, h1, h2⟩ := R.bind_ok h
    obtain ⟨xs, s2, h3, h4⟩ := R.bind_ok h2
    cases h4
    exact ⟨μ, env, st, x, s1, S, E, h1, fun μ1 H1 v N1 S1 r1 => ⟨μ1, env, s1, xs, _, S1, E.nxt N1, h3, fun μ2 H2 vs N2 S2 r2 => k _ _ _ (N1.trans N2) S2 (.cons (r1.nxt N2) r2)⟩⟩
/-- f(k = v, ..), all by keywords, in the parameters' order -/
theorem re_callK (hX : In X N sc) (G : Gx X P w K mg base) (c : Cl P w K mg base k x ps f) (ar : Ar ps.length f) (hr : Room j X.A) (hk : k ≤ j) (hg : glB sc x = true) (hkw : RK X kws n)
    (hall : (backToKw pos (keywordEach kws X.env)).all (·.1.isSome) = true := by rfl) (hks : (backToKw pos (keywordEach kws X.env)).filterMap (·.1) = ps := by rfl)
    (hdb : (x == ("__debug__" : Str)) = false := by decide)
    (hpl : ((backTo pos (starEach [] X.env)).any (·.1) || (backToKw pos (keywordEach kws X.env)).any (·.1.isNone)) = false := by rfl) :
    RE X (.Call (.Name x p) [] kws pos) (eCall (callM f) n) := by
  obtain ⟨rfl, rfl, rfl, rfl, rfl⟩ := G
  obtain ⟨a, fd, F, hm, kp, _, bk⟩ := c.ex
  refine ⟨fun pins s σ H Q I h => ?_⟩
  refine wpAny_Call_Name_kw (ld_glob I (hX.gl hg) hm ?_ hdb)
  refine PySem.W.callWith_KW0 (h₀ := X.base) I.ok.mod.kin kp hall (thn (hkw.run pos pins s σ H _ I (call_run h)) fun ws s2 ⟨zs, H2, I2, rz, q2⟩ => ⟨I2.kIn, ?_⟩) hpl
  rw [hks]
  have q3 := call_sp (n := ps.length) ar q2
  have hl : ws.length = ps.length := by rw [← rz.length]; exact q3.1
  refine wpAny_call (codeAny_mono (F.run X.A X.stack s2 H2 ⟨[], ps.zip ws⟩ ws zs Q E0 (hr.mono hk) I2.env0 (bk s2 ws hl) rz q3) fun r s' hq => ?_)
  cases r with
  | error e => exact pass0 pins σ H2 s2 e s' I2 hq
  | ok fl =>
    cases fl with
    | ret u => exact I2.after hq
    | next => exact False.elim hq
    | brk => exact False.elim hq
    | cont => exact False.elim hq
end
end Rx

/-! RxI: more rules: constants, chains of three, sums, enumerate, zip, reversed slices, ranges as tuples and lists, comprehensions of two clauses. -/
namespace Rx
open PySem PySem.Spec PyProof.Rows L2

/-- the names that the text leaves to the builtins -/
def bnames : List Str := ["len", "abs", "int", "max", "min", "all", "any", "tuple", "list", "sum", "range", "isinstance", "sorted", "set", "enumerate", "zip", "bool", "str", "reversed", "dict", "ValueError"]
def bnB (x : Str) : Bool := bnames.contains x
def Bn (mg : Str → Option Value) : Prop := ∀ x, x ∈ bnames → mg x = none
section
variable {X : Cx} {P : Program} {w : World} {K : PySem.W.Frag} {mg : Str → Option Value} {base : Heap} {N : List Str} {sc : Scope}
theorem Gx.no (G : Gx X P w K mg base) (B : Bn mg) {x : Str} (h : bnB x = true) : X.mg x = none := by
  rw [G.mg]
  exact B x (List.contains_iff_mem.mp h)
theorem Gx.gm (G : Gx X P w K mg base) {x : Str} {u : Value} (h : mg x = some u) : X.mg x = some u := by rw [G.mg]; exact h
theorem Gx.blk (G : Gx X P w K mg base) {s : Shared} {H : Hp} {scope : Scope} {C : Addr} {cl : List (Str × Addr)} {fp : List Addr} : Gx (X.blk s H scope (compEnvC scope cl C X.env) fp) P w K mg base := ⟨G.prog, G.w, G.K, G.mg, G.base⟩
theorem re_globI (hX : In X N sc) (G : Gx X P w K mg base) {x : Str} {i : Int} {pos : Pos} (hg : glB sc x = true) (h : ∃ t, mg x = some (.int i t)) (hd : (x == ("__debug__" : Str)) = false) : RE X (.Name x pos) (cst (.int i)) := by
  obtain ⟨t, h⟩ := h
  exact re_glob hX hg (G.gm h) (v := .int i) ⟨t, rfl⟩ (fun _ _ _ => .int _) hd
/-- a module's tuple of plain things -/
theorem re_globT (hX : In X N sc) (G : Gx X P w K mg base) {x : Str} {vs : List V} {ws : List W} {pos : Pos} (hg : glB sc x = true) (h : ∃ a, mg x = some (.ref a) ∧ SqT K (fun _ => none) a vs) (hr : ∀ (μ : Nat → Addr) (L : Nat) (H : Hp), Reps X.K μ L H vs ws) (hd : (x == ("__debug__" : Str)) = false) : RE X (.Name x pos) (cst (.tup ws)) := by
  obtain ⟨a, h, q⟩ := h
  have hk := G.K
  refine re_glob hX hg (G.gm h) (v := .ref a) rfl (fun μ L H => .tup ?_ (hr μ L H)) hd
  rw [hk]
  rcases q with q | q
  · rcases q with q | ⟨o, q⟩
    · cases q
    · cases q
  · exact .inr q
/-- a def of which nothing is told -/
theorem cl_err {x y : Str} {st : Stmt} {a : Addr} {fd : FuncData} {ps : List Str} (F : Fun K y y st a fd) (hm : mg x = some (.ref a))
    (hbd : ∀ (kV doc pm : Value) (an : Option Addr) (cdv ct : Value) (us : List Value), us.length = ps.length → bindArgs (PySem.W.fnOf y y (defArgs st) (defBody st) (defScope st) .none kV doc pm an cdv ct) ⟨us, []⟩ = pure (ps.zip us))
    (hbk : ∀ (kV doc pm : Value) (an : Option Addr) (cdv ct : Value) (us : List Value), us.length = ps.length → bindArgs (PySem.W.fnOf y y (defArgs st) (defBody st) (defScope st) .none kV doc pm an cdv ct) ⟨[], ps.zip us⟩ = pure (ps.zip us)) :
    Cl P w K mg base 0 x ps (fun _ _ => .err) := by
  refine ⟨a, fd, ⟨fun vs H Q E h => h.1, fun A outer s H args us vs Q E _ _ _ _ h => ?_⟩, hm, F.kp, F.binds hbd, ?_⟩
  · obtain ⟨_, μ, st, ws, w, st', S, r, e, k⟩ := h
    cases e
  · obtain ⟨oc, od, kV, doc, pm, an, cdv, ct, osl, rfl, lk, hcd⟩ := F.ex
    exact fun s ws hl => .of_eq (hbk kV doc pm an cdv ct ws hl)
end

/-! ### a < b < c < d -/
section
variable {X : Cx} {a b c d e : Expr} {pos : Pos}
def eChain3 (f g h : W → W → Sto → R W) (ma mb mc md : EX) : EX := fun env st => (ma env st).bind fun x s1 => (mb env s1).bind fun y s2 => (f x y s2).bind fun z s3 => match z with
  | .bl true => (mc env s3).bind fun u s4 => (g y u s4).bind fun z2 s5 => match z2 with
    | .bl true => (md env s5).bind fun v s6 => h u v s6
    | .bl false => .ok (.bl false) s5
    | _ => .err
  | .bl false => .ok (.bl false) s3
  | _ => .err
def tChain3 (r1 r2 r3 : R2) (ta tb tc td : TE) : TE := fun σ H Q => ta σ H fun x H1 => tb σ H1 fun y H2 => r1 x y H2 fun z H3 => ∃ k, z = .bl k ∧
  (if k = true then tc σ H3 fun u H4 => r2 y u H4 fun z2 H5 => ∃ k2, z2 = .bl k2 ∧ (if k2 = true then td σ H5 fun v H6 => r3 u v H6 Q else Q (.bl false) H5) else Q (.bl false) H3)
theorem pe_chain3 {o1 o2 o3 : CmpOp} {r1 r2 r3 : R2} {ta tb tc td : TE} (h1 : OpR X (compareOp o1) r1) (h2 : OpR X (compareOp o2) r2) (h3 : OpR X (compareOp o3) r3) (ha : PE X a ta) (hb : PE X b tb) (hc : PE X c tc) (hd : PE X d td)
    (hm : lastMarks [o1, o2, o3] [b, c, d] = false) : PE X (.Compare a [o1, o2, o3] [b, c, d] pos) (tChain3 r1 r2 r3 ta tb tc td) := by
  refine ⟨fun pins s σ H Q I h => ?_⟩
  refine Compare_chain (thn (ha.run pins s σ H _ I h) fun v s1 ⟨x, H1, I1, q1, t1⟩ => chain_link (thn (hb.run pins s1 σ H1 _ I1 t1) fun u s2 ⟨y, H2, I2, q2, t2⟩ =>
    thn (h1 pins s2 σ H2 x y v u _ I2 q1 q2 t2) fun d s3 ⟨z, H3, I3, q3, k, e, t3⟩ => ?_)) hm
  subst e
  cases q3
  refine wpAny_truthy_bool ?_
  cases k with
  | false => exact ite_ff ⟨.bl false, H3, I3, rfl, t3⟩
  | true =>
    refine ite_tt (chain_link (thn (hc.run pins s3 σ H3 _ I3 t3) fun u' s4 ⟨z', H4, I4, q4, t4⟩ => thn (h2 pins s4 σ H4 y z' u u' _ I4 q2 q4 t4) fun d' s5 ⟨z5, H5, I5, q5, k2, e2, t5⟩ => ?_))
    subst e2
    cases q5
    refine wpAny_truthy_bool ?_
    cases k2 with
    | false => exact ite_ff ⟨.bl false, H5, I5, rfl, t5⟩
    | true => exact ite_tt (chain_last (thn (hd.run pins s5 σ H5 _ I5 t5) fun u6 s6 ⟨z6, H6, I6, q6, t6⟩ => h3 pins s6 σ H6 z' z6 u' u6 Q I6 q4 q6 t6))
theorem pt_chain3 {o1 o2 o3 : CmpOp} {r1 r2 r3 : R2} {ta tb tc td : TE} (h1 : OpR X (compareOp o1) r1) (h2 : OpR X (compareOp o2) r2) (h3 : OpR X (compareOp o3) r3) (ha : PE X a ta) (hb : PE X b tb) (hc : PE X c tc) (hd : PE X d td)
    (hm : lastMarks [o1, o2, o3] [b, c, d] = false) : PT X (.Compare a [o1, o2, o3] [b, c, d] pos) (tTest (tChain3 r1 r2 r3 ta tb tc td)) := by
  refine ⟨fun pins s σ H Q I h => ?_⟩
  refine isTrue_chain (thn (ha.run pins s σ H _ I h) fun v s1 ⟨x, H1, I1, q1, t1⟩ => test_link (thn (hb.run pins s1 σ H1 _ I1 t1) fun u s2 ⟨y, H2, I2, q2, t2⟩ =>
    thn (h1 pins s2 σ H2 x y v u _ I2 q1 q2 t2) fun d s3 ⟨z, H3, I3, q3, k, e, t3⟩ => ?_)) hm
  subst e
  cases q3
  refine wpAny_truthy_bool ?_
  cases k with
  | false =>
    obtain ⟨k', e', q'⟩ := t3
    cases e'
    exact ite_ff ⟨H3, I3, q'⟩
  | true =>
    refine ite_tt (test_link (thn (hc.run pins s3 σ H3 _ I3 t3) fun u' s4 ⟨z', H4, I4, q4, t4⟩ => thn (h2 pins s4 σ H4 y z' u u' _ I4 q2 q4 t4) fun d' s5 ⟨z5, H5, I5, q5, k2, e2, t5⟩ => ?_))
    subst e2
    cases q5
    refine wpAny_truthy_bool ?_
    cases k2 with
    | false =>
      obtain ⟨k', e', q'⟩ := t5
      cases e'
      exact ite_ff ⟨H5, I5, q'⟩
    | true =>
      refine ite_tt (test_last (thn (hd.run pins s5 σ H5 _ I5 t5) fun u6 s6 ⟨z6, H6, I6, q6, t6⟩ => thn (h3 pins s6 σ H6 z' z6 u' u6 _ I6 q4 q6 t6) fun d7 s7 ⟨z7, H7, I7, q7, k3, e3, t7⟩ => ?_))
      subst e3
      cases q7
      exact wpAny_truthy_bool ⟨H7, I7, t7⟩
theorem chain3_run {f g h : W → W → Sto → R W} {ma mb mc md : EX} {σ : L2.St} {H : Hp} {Q : VK} (hh : lE X.K (eChain3 f g h ma mb mc md) σ H Q) : tChain3 (lO X.K f) (lO X.K g) (lO X.K h) (lE X.K ma) (lE X.K mb) (lE X.K mc) (lE X.K md) σ H Q := by
  obtain ⟨μ, env, st, w, st', S, E, h, k⟩ := hh
  obtain ⟨a', s1, h1, h2⟩ := R.bind_ok h
  obtain ⟨b', s2, h3, h4⟩ := R.bind_ok h2
  obtain ⟨z, s3, h5, h6⟩ := R.bind_ok h4
  refine ⟨μ, env, st, a', s1, S, E, h1, fun μ1 H1 v N1 S1 r1 => ⟨μ1, env, s1, b', s2, S1, E.nxt N1, h3, fun μ2 H2 u N2 S2 r2 =>
    ⟨μ2, s2, a', b', z, s3, S2, r1.nxt N2, r2, h5, fun μ3 H3 d N3 S3 r3 => ?_⟩⟩⟩
  have hz : ∃ bb, z = .bl bb := by
    cases z with
    | bl bb => exact ⟨bb, rfl⟩
    | _ => cases h6
  obtain ⟨bb, rfl⟩ := hz
  cases r3
  refine ⟨bb, rfl, ?_⟩
  have E3 := ((E.nxt N1).nxt N2).nxt N3
  have N123 := (N1.trans N2).trans N3
  cases bb with
  | true =>
    simp only [if_true]
    obtain ⟨u', s4, h7, h8⟩ := R.bind_ok h6
    obtain ⟨z2, s5, h9, h10⟩ := R.bind_ok h8
    refine ⟨μ3, env, s3, u', s4, S3, E3, h7, fun μ4 H4 q N4 S4 r4 => ⟨μ4, s4, b', u', z2, s5, S4, (r2.nxt N3).nxt N4, r4, h9, fun μ5 H5 d5 N5 S5 r5 => ?_⟩⟩
    have hz2 : ∃ bb, z2 = .bl bb := by
      cases z2 with
      | bl bb => exact ⟨bb, rfl⟩
      | _ => cases h10
    obtain ⟨b2, rfl⟩ := hz2
    cases r5
    refine ⟨b2, rfl, ?_⟩
    cases b2 with
    | true =>
      simp only [if_true]
      obtain ⟨v', s6, h11, h12⟩ := R.bind_ok h10
      exact ⟨μ5, env, s5, v', s6, S5, (E3.nxt N4).nxt N5, h11, fun μ6 H6 q6 N6 S6 r6 => ⟨μ6, s6, u', v', w, st', S6, (r4.nxt N5).nxt N6, r6, h12, k.mono (((N123.trans N4).trans N5).trans N6)⟩⟩
    | false =>
      simp only [Bool.false_eq_true, if_false]
      cases h10
      exact k _ _ _ ((N123.trans N4).trans N5) S5 (.bl _)
  | false =>
    simp only [Bool.false_eq_true, if_false]
    cases h6
    exact k _ _ _ N123 S3 (.bl _)
theorem re_chain3 {o1 o2 o3 : CmpOp} {f g h : W → W → Sto → R W} {ma mb mc md : EX} (h1 : OpR X (compareOp o1) (lO X.K f)) (h2 : OpR X (compareOp o2) (lO X.K g)) (h3 : OpR X (compareOp o3) (lO X.K h)) (ha : RE X a ma) (hb : RE X b mb) (hc : RE X c mc) (hd : RE X d md)
    (hm : lastMarks [o1, o2, o3] [b, c, d] = false) : RE X (.Compare a [o1, o2, o3] [b, c, d] pos) (eChain3 f g h ma mb mc md) :=
  pe_imp (pe_chain3 h1 h2 h3 ha hb hc hd hm) fun σ H Q h => chain3_run h
theorem rt_chain3 {o1 o2 o3 : CmpOp} {f g h : W → W → Sto → R W} {ma mb mc md : EX} (h1 : OpR X (compareOp o1) (lO X.K f)) (h2 : OpR X (compareOp o2) (lO X.K g)) (h3 : OpR X (compareOp o3) (lO X.K h)) (ha : RE X a ma) (hb : RE X b mb) (hc : RE X c mc) (hd : RE X d md)
    (hm : lastMarks [o1, o2, o3] [b, c, d] = false) : RT X (.Compare a [o1, o2, o3] [b, c, d] pos) (tBl (eChain3 f g h ma mb mc md)) :=
  pt_imp (pt_chain3 h1 h2 h3 ha hb hc hd hm) fun σ H Q h => chain3_run (tBl_run h)

/-! ### sum -/
theorem call_sumT (hc : X.calm = true) : CallR X (.builtin "sum") (fun vs H Q => ∃ (a : Addr) (ns : List Int), vs = [V.ref a] ∧ SqT X.K H a (ns.map V.int) ∧ Q (.int ns.sum) H) := by
  intro pins s σ H vs us Q I r h
  obtain ⟨a, ns, rfl, hs, q⟩ := h
  obtain ⟨its, rv, ht, _⟩ := I.tuple hs
  rw [Vals.ref1 r]
  have hi := rv.ints
  obtain ⟨xs, e⟩ := hi.allInts.items
  have hn : numsOf its.toArray.toList = ns := by rw [show its.toArray.toList = its from rfl, hi.numsOf]
  have ht' : s.heap.IsTuple a its.toArray := ht
  rw [e] at ht' hn
  rw [nums_intItems] at hn
  refine PySem.W.ktm_sumG (I.ok.hd hc) ht' fun h' tk t' hk => ⟨.int _, H, I.kept hk, ⟨_, rfl⟩, ?_⟩
  rw [preSum_eq, List.take_of_length_le (by simp), hn]
  exact q
def gSum (a : W) (st : Sto) : R W := match seqW st a with
  | some xs => match intsW xs with
    | some ns => .ok (.int ns.sum) st
    | none => .err
  | none => .err
theorem c_sum {N : List Str} {sc : Scope} (hX : In X N sc) : CallR X (.builtin "sum") (lC X.K (f1 gSum)) := by
  intro pins s σ H vs us Q I r h
  obtain ⟨v, rfl, μ, st, a, w, st', S, ra, e, k⟩ := f1_run h
  unfold gSum at e
  split at e
  · rename_i xs h1
    split at e
    · rename_i ns h2
      cases e
      have := intsW_eq h2; subst this
      obtain ⟨p, vs', rfl, q, r1⟩ := seqW_ok S ra h1
      have := r1.ofInts; subst this
      rcases q with q | q
      · exact cr_sum hX.calm pins s σ H _ us Q I r ⟨p, ns, rfl, q, k.here S (.int _)⟩
      · exact call_sumT hX.calm pins s σ H _ us Q I r ⟨p, ns, rfl, q.sq, k.here S (.int _)⟩
    · cases e
  · cases e
/-! ### sorted, whole numbers -/
/-- ascending, by putting each in its place -/
def insI (x : Int) : List Int → List Int
  | [] => [x]
  | y :: ys => if x ≤ y then x :: y :: ys else y :: insI x ys
def sortI : List Int → List Int
  | [] => []
  | x :: xs => insI x (sortI xs)
theorem insI_perm (x : Int) : ∀ ys : List Int, (insI x ys).Perm (x :: ys)
  | [] => .refl _
  | y :: ys => by
    unfold insI
    split
    · exact .refl _
    · exact ((insI_perm x ys).cons y).trans (.swap x y ys)
theorem sortI_perm : ∀ xs : List Int, (sortI xs).Perm xs
  | [] => .refl _
  | x :: xs => (insI_perm x (sortI xs)).trans ((sortI_perm xs).cons x)
theorem insI_pw (x : Int) : ∀ ys : List Int, ys.Pairwise (· ≤ ·) → (insI x ys).Pairwise (· ≤ ·)
  | [], _ => List.pairwise_singleton _ _
  | y :: ys, h => by
    unfold insI
    obtain ⟨h1, h2⟩ := List.pairwise_cons.mp h
    split
    · rename_i hx
      refine List.pairwise_cons.mpr ⟨fun z hz => ?_, h⟩
      rcases List.mem_cons.mp hz with rfl | hz
      · exact hx
      · exact Int.le_trans hx (h1 z hz)
    · rename_i hx
      refine List.pairwise_cons.mpr ⟨fun z hz => ?_, insI_pw x ys h2⟩
      rcases List.mem_cons.mp ((insI_perm x ys).mem_iff.mp hz) with rfl | hz
      · omega
      · exact h1 z hz
theorem sortI_pw : ∀ xs : List Int, (sortI xs).Pairwise (· ≤ ·)
  | [] => .nil
  | x :: xs => insI_pw x _ (sortI_pw xs)
theorem sortI_uniq {xs ys : List Int} (p : ys.Perm xs) (h : ys.Pairwise (· ≤ ·)) : ys = sortI xs :=
  List.Perm.eq_of_pairwise (fun a b _ _ h1 h2 => Int.le_antisymm h1 h2) h (sortI_pw xs) (p.trans (sortI_perm xs).symm)
end

/-! ### reversed slices -/
theorem slice_rev (n : Nat) : Builtin.Slice.sliceAdjust none none (-1) (n : Int) = ((n : Int) - 1, -1) ∧ Builtin.Slice.slicePlaces ((n : Int) - 1) (-1) (-1) = n := by
  refine ⟨rfl, ?_⟩
  unfold Builtin.Slice.slicePlaces
  have h1 : ¬ ((-1 : Int) > 0) := by decide
  simp only [h1, if_false]
  split
  · rw [show (- -1 : Int) = 1 by decide, Int.ediv_one]
    omega
  · omega
theorem pick_rev (xs : Array Value) : ((List.range xs.size).filterMap fun (m : Nat) => xs[(((xs.size : Int) - 1) + (m : Int) * (-1)).toNat]?).toArray = xs.toList.reverse.toArray := by
  rw [← PySem.W.krv_pick]
  unfold slicePick
  rw [PySem.W.krv_bounds]
  show _ = ((sliceRange ((xs.size : Int) - 1) (-1) (-1)).filterMap (xs[·]?)).toArray
  rw [PySem.W.krv_sliceRange, List.filterMap_map]
  have h : ∀ l : List Nat, (∀ m ∈ l, m < xs.size) → l.filterMap (fun (m : Nat) => xs[(((xs.size : Int) - 1) + (m : Int) * (-1)).toNat]?) = l.filterMap ((fun x => xs[x]?) ∘ fun k => xs.size - 1 - k) := by
    intro l
    induction l with
    | nil => intro _; rfl
    | cons m l ih =>
      intro hl
      have hm := hl m List.mem_cons_self
      have e : (((xs.size : Int) - 1) + (m : Int) * (-1)).toNat = xs.size - 1 - m := by omega
      rw [List.filterMap_cons, List.filterMap_cons, ih fun z hz => hl z (List.mem_cons_of_mem _ hz)]
      simp only [e, Function.comp]
  rw [h _ fun m hm => List.mem_range.mp hm]
section
variable {prog : Program} {w : World} {A : Around} {E : Value → Shared → Prop} {s : Shared}
theorem sliceApplied_rev {sl : Addr} {vl vu vs : Value} {n : Nat} {Q : Int × Int × Nat → Shared → Prop} (hs : s.heap.IsSliceOf sl vl vu vs) (pl : IsPart vl none) (pu : IsPart vu none) (ps : IsPart vs (some (-1)))
    (h : Q ((n : Int) - 1, -1, n) s) : wpAny (model prog w) A (Builtin.Slice.sliceApplied (.ref sl) (pure (n : Int))) Q E s := by
  obtain ⟨os, hos, hcs, hds⟩ := id hs
  unfold Builtin.Slice.sliceApplied Builtin.Slice.sliceFields
  refine wpAny_bind (wpAny_bind (wpAny_field hos hds (x := vl) rfl (wpAny_bind (wpAny_field hos hds (x := vu) rfl (wpAny_bind (wpAny_field hos hds (x := vs) rfl (wpAny_pure ?_)))))))
  refine wpAny_bind (HT.slicePart_ ps ?_)
  show wpAny _ _ (if ((-1 : Int) == 0) = true then _ else _) _ _ s
  rw [if_neg (by decide)]
  refine wpAny_bind (HT.slicePart_ pl (wpAny_bind (HT.slicePart_ pu (wpAny_bind (wpAny_pure ?_)))))
  show wpAny _ _ (match Builtin.Slice.sliceAdjust none none (-1) (n : Int) with | (lo, hi) => pure (lo, (-1 : Int), Builtin.Slice.slicePlaces lo hi (-1))) _ _ s
  rw [(slice_rev n).1]
  show wpAny _ _ (pure ((n : Int) - 1, (-1 : Int), Builtin.Slice.slicePlaces ((n : Int) - 1) (-1) (-1))) _ _ s
  rw [(slice_rev n).2]
  exact wpAny_pure h
theorem getItem_tuple_rev {t sl : Addr} {items : Array Value} {vl vu vs : Value} {Q : Value → Shared → Prop} (ht : IsTup s.heap t items) (hs : s.heap.IsSliceOf sl vl vu vs) (pl : IsPart vl none) (pu : IsPart vu none) (ps : IsPart vs (some (-1)))
    (h : Q (.ref s.heap.objs.size) { s with heap := s.heap.push { cls := .type "tuple", data := .seq items.toList.reverse.toArray } })
    (hsz : items.size ≤ sizeLine) : wpAny (model prog w) A (getItem (.ref t) (.ref sl)) Q E s := by
  have htake : sizeOk (.seq items.toList.reverse.toArray) := by
    show (items.toList.reverse.toArray).size ≤ sizeLine
    rw [List.size_toArray, List.length_reverse, Array.length_toList]
    exact hsz
  obtain ⟨os, hos, hcs, hds⟩ := id hs
  have hTs : s.TypeIs (.ref sl) "slice" := ⟨os, hos, hcs⟩
  unfold getItem
  refine wpAny_holding ?_
  first | refine wpAny_bind (wpAny_pure ?_) | skip
  refine wpAny_bind (wpAny_sequenceKey ht.typeIs (by decide) ?_)
  refine wpAny_bind (wpAny_callSpecial?_slot (name := Str.ofString "__getitem__") ht.typeIs PyProof.Rows.slot_tuple_getitem
    (wpAny_call_entry PyProof.Rows.slot_tuple_getitem ht.typeIs PyProof.Rows.entry_tuple_getitem ?_ (PyProof.Rows.args_tuple_getitem _ _)))
  show wpAny _ _ (Builtin.Tuple.tupleItemsOf (.ref t) >>= _) _ _ s
  refine wpAny_bind (tupleItemsOf_ ht ?_)
  refine wpAny_bind (wpAny_typeOf hTs ?_)
  rw [if_pos (by decide)]
  refine wpAny_bind (sliceApplied_rev hs pl pu ps ?_)
  · have hno : ¬ ((((items.size : Int) - 1 == 0 && (-1 : Int) == 1) && items.size == items.size) = true) := by
      rw [show ((-1 : Int) == 1) = false by decide, Bool.and_false, Bool.false_and]
      exact Bool.false_ne_true
    show wpAny _ _ (if (((items.size : Int) - 1 == 0 && (-1 : Int) == 1) && items.size == items.size) = true then _ else _) _ _ s
    rw [if_neg hno, pick_rev]
    first
      | exact wpAny_bind (m := Builtin.Tuple.tupleExact _) (wpAny_newObj_type (wpAny_pure ⟨_, rfl, wpAny_pure h⟩) htake)
      | exact wpAny_bind (m := Builtin.Tuple.tupleExact _) (wpAny_newObj_type (wpAny_bind (wpAny_pure (wpAny_pure ⟨_, rfl, wpAny_pure h⟩))) htake)
      | exact wpAny_bind (wpAny_bind (m := Builtin.Tuple.tupleExact _) (wpAny_newObj_type (wpAny_pure (wpAny_pure ⟨_, rfl, wpAny_pure h⟩)) htake))
      | exact wpAny_bind (wpAny_bind (m := Builtin.Tuple.tupleExact _) (wpAny_newObj_type (wpAny_pure ⟨_, rfl, wpAny_pure h⟩) htake))
end
section
variable {X : Cx} {e : Expr} {pos : Pos}
def tRevT (K : PySem.W.Frag) (te : TE) : TE := fun σ H Q => te σ H fun x H1 => ∃ a xs, x = .ref a ∧ ((SqL K H1 a xs ∧ ∀ p, H1 p = none → Q (.ref p) (upd H1 p (.lst xs.reverse))) ∨ (SqT K H1 a xs ∧ ∀ p, H1 p = none → Q (.ref p) (upd H1 p (.tup xs.reverse))))
theorem pe_revT {te : TE} {k : Nat} {p1 p2 p3 : Pos} (he : PE X e te) : PE X (.Subscript e (.Slice none none (some (.UnaryOp .USub (.Constant (.int 1) k p1) p2)) p3) pos) (tRevT X.K te) := by
  refine ⟨fun pins s σ H Q I h => ?_⟩
  refine Subscript_ (thn (he.run pins s σ H _ I h) fun v s1 ⟨x, H1, I1, r1, q1⟩ => ?_)
  obtain ⟨a, xs, ex, q⟩ := q1
  subst ex
  cases r1
  have hst : PO X (some (.UnaryOp .USub (.Constant (.int 1) k p1) p2)) (tPart (tUn (rU fun i => .int (-i)) (tC (.int 1)))) := po_some (pe_un un_neg pe_int)
  refine wpAny_Slice (thn (po_none.run pins s1 σ H1 (fun o H2 => o = none ∧ H2 = H1) I1 ⟨rfl, rfl⟩) fun vl s2 ⟨l, H2, I2, pl, el, e2⟩ => ?_)
  subst el e2
  refine thn (po_none.run pins s2 σ H2 (fun o H3 => o = none ∧ H3 = H2) I2 ⟨rfl, rfl⟩) fun vu s3 ⟨u, H3, I3, pu, eu, e3⟩ => ?_
  subst eu e3
  refine thn (hst.run pins s3 σ H3 (fun o H4 => o = some (-1) ∧ H4 = H3) I3 ⟨1, rfl, -1, rfl, rfl, rfl⟩) fun vs s4 ⟨o, H4, I4, ps, eo, e4⟩ => ?_
  subst eo e4
  have I5 : Inv X pins σ H4 { s4 with heap := s4.heap.push { cls := .type "slice", data := .fields #[vl, vu, vs] } } := I4.kept (t' := s4.toks) fun b ob q => Heap.get?_push_of_some _ q
  show wpAny (model X.prog X.w) X.A (subscriptTail e (.Slice none none (some (.UnaryOp .USub (.Constant (.int 1) k p1) p2)) p3) (.ref a) (.ref s4.heap.objs.size)) (EP X pins σ Q) X.xe { s4 with heap := s4.heap.push { cls := .type "slice", data := .fields #[vl, vu, vs] } }
  rcases q with ⟨hx, q⟩ | ⟨hx, q⟩
  · obtain ⟨its, r, ht, hz⟩ := I5.list hx
    have hlen := r.length
    refine tail_any (ops := [.ref a, .ref s4.heap.objs.size]) ht.isList.typeIs (PySem.slot_list_getitem.lookup) ?_ (by with_unfolding_all rfl)
    refine wpAny_getItem_list_slice ht.isList (Heap.IsSliceOf.new _ vl vu vs) pl pu ps (by decide) ?_ (by rw [List.size_toArray]; omega)
    rw [PySem.W.krv_pick]
    refine ⟨.ref _, _, I5.laid (t' := s4.toks) (o := .lst xs.reverse) (fun b ob q => Heap.get?_push_of_some _ q) (Nat.le_refl _) ?_, rfl, q _ (I5.hok.fresh (Nat.le_refl _))⟩
    exact ⟨by rw [List.length_reverse]; exact hz, _, 0, r.reverse, Heap.get?_push_size _ rfl⟩
  · obtain ⟨its, r, ht, hz⟩ := I5.tuple hx
    have hlen := r.length
    refine tail_any (ops := [.ref a, .ref s4.heap.objs.size]) ht.typeIs (PyProof.Rows.slot_tuple_getitem.lookup) ?_ (by with_unfolding_all rfl)
    refine getItem_tuple_rev ht (Heap.IsSliceOf.new _ vl vu vs) pl pu ps ?_ (by rw [List.size_toArray]; omega)
    refine ⟨.ref _, _, I5.laid (t' := s4.toks) (o := .tup xs.reverse) (fun b ob q => Heap.get?_push_of_some _ q) (Nat.le_refl _) ?_, rfl, q _ (I5.hok.fresh (Nat.le_refl _))⟩
    exact ⟨by rw [List.length_reverse]; exact hz, _, r.reverse, IsTup.new _ _⟩
def fRev (x : W) (st : Sto) : R W := match x with
  | .tup xs => .ok (.tup xs.reverse) st
  | .ls n => match st[n]? with
    | some (.lst xs) => .ok (.ls st.length) (st ++ [.lst xs.reverse])
    | none => .err
  | .frz ns => .ok (.ls st.length) (st ++ [.lst (ns.map W.int).reverse])
  | _ => .err
theorem re_rev {m : EX} {k : Nat} {p1 p2 p3 : Pos} (he : RE X e m) : RE X (.Subscript e (.Slice none none (some (.UnaryOp .USub (.Constant (.int 1) k p1) p2)) p3) pos) (eUn fRev m) :=
  pe_imp (pe_revT he) fun σ H Q ⟨μ, env, st, w, st', S, E, h, k⟩ => by
    obtain ⟨x, s1, h1, h2⟩ := R.bind_ok h
    refine ⟨μ, env, st, x, s1, S, E, h1, fun μ1 H1 v N1 S1 r1 => ?_⟩
    have k1 := k.mono N1
    cases x with
    | tup xs =>
      cases h2
      obtain ⟨a, vs, rfl, t, r⟩ := rep_tup r1
      exact ⟨a, vs, rfl, .inr ⟨t.sq, fun p hp => k1.tup S1 r.reverse hp⟩⟩
    | ls n =>
      obtain ⟨rfl, hn⟩ := rep_ls r1
      simp only [fRev] at h2
      split at h2
      · rename_i e1
        cases h2
        obtain ⟨vs, q1, r⟩ := S1.lstAt e1
        exact ⟨_, vs, rfl, .inl ⟨.inl (.inl q1), fun p hp => k1.new S1 r.reverse hp⟩⟩
      · cases h2
    | frz ns =>
      obtain ⟨a, rfl, f⟩ := rep_frz r1
      cases h2
      exact ⟨a, _, rfl, .inl ⟨f.sq, fun p hp => k1.new S1 (Reps.ints.reverse) hp⟩⟩
    | _ => cases h2

/-! ### tuple(range(..)), list(range(..)) -/
theorem rgV_eq (a b : Int) : rgV a b = (rngW a 1 (b - a).toNat).map fun w => match w with | .int i => V.int i | _ => V.non := by
  have h : ∀ (n : Nat) (a : Int), (List.range n).map (fun i => V.int (a + (i : Nat))) = (rngW a 1 n).map fun w => match w with | .int i => V.int i | _ => V.non := by
    intro n
    induction n with
    | zero => intro a; rfl
    | succ n ih =>
      intro a
      rw [List.range_succ_eq_map, List.map_cons, List.map_map]
      show _ = V.int a :: (rngW (a + 1) 1 n).map _
      rw [← ih (a + 1)]
      congr 1
      · simp
      · apply List.map_congr_left
        intro i _
        show V.int (a + ((i + 1 : Nat) : Int)) = V.int (a + 1 + (i : Int))
        congr 1
        push_cast
        omega
  exact h _ a
theorem reps_rng {K : PySem.W.Frag} {μ : Nat → Addr} {L : Nat} {H : Hp} : ∀ (n : Nat) (a c : Int), Reps K μ L H ((rngW a c n).map fun w => match w with | .int i => V.int i | _ => V.non) (rngW a c n)
  | 0, _, _ => .nil
  | n + 1, a, c => .cons (.int a) (reps_rng n (a + c) c)
def rgOkB (a b : Int) : Bool := rngOk a && (rngOk b && decide ((b - a).toNat ≤ 1000000))
theorem rgOkB_ok {a b : Int} (h : rgOkB a b = true) : RgOk a b := by
  unfold rgOkB at h
  simp only [Bool.and_eq_true, decide_eq_true_eq] at h
  obtain ⟨h1, h2, h3⟩ := h
  obtain ⟨q1, q2⟩ := rngOk_ok h1
  obtain ⟨q3, q4⟩ := rngOk_ok h2
  exact ⟨q1, q2, q3, q4, by omega⟩
def rngArgs : List W → Option (Int × Int)
  | [.int j] => some (0, j)
  | [.int i, .int j] => some (i, j)
  | _ => none
def eLstRg (n : AX) : EX := fun env st => (n env st).bind fun ws s1 => match rngArgs ws with
  | some (a, b) => if rgOkB a b = true then .ok (.ls s1.length) (s1 ++ [.lst (rngW a 1 (b - a).toNat)]) else .err
  | none => .err
def eTupRg (n : AX) : EX := fun env st => (n env st).bind fun ws s1 => match rngArgs ws with
  | some (a, b) => if rgOkB a b = true then .ok (.tup (rngW a 1 (b - a).toNat)) s1 else .err
  | none => .err
variable {a b c : Expr} {N : List Str} {sc : Scope} {p p2 pos2 : Pos}
theorem cons_args {m : EX} {n : AX} {env : Env'} {st st' : Sto} {ws : List W} (h : aCons m n env st = .ok ws st') : ∃ w s1 us, ws = w :: us ∧ m env st = .ok w s1 ∧ n env s1 = .ok us st' := by
  obtain ⟨x, s1, h1, h2⟩ := R.bind_ok h
  obtain ⟨xs, s2, h3, h4⟩ := R.bind_ok h2
  cases h4
  exact ⟨x, s1, xs, rfl, h1, h3⟩
theorem lstRg_run {m n : EX} {Q : VK} {σ : L2.St} {H : Hp} (h : lE X.K (eLstRg (aCons m (aCons n aNil))) σ H Q) : tLstRg (tRg2 (lE X.K m) (lE X.K n)) σ H Q := by
  obtain ⟨μ, env, st, w, st', S, E, h, k⟩ := h
  obtain ⟨ws, s1, h1, h2⟩ := R.bind_ok h
  obtain ⟨x, s2, us, rfl, h3, h4⟩ := cons_args h1
  obtain ⟨y, s3, us', rfl, h5, h6⟩ := cons_args h4
  cases h6
  refine ⟨μ, env, st, x, s2, S, E, h3, fun μ1 H1 v N1 S1 r1 => ⟨μ1, env, s2, y, _, S1, E.nxt N1, h5, fun μ2 H2 u N2 S2 r2 => ?_⟩⟩
  cases x <;> try cases h2
  cases y <;> try cases h2
  rename_i i j
  cases r1
  cases r2
  simp only [rngArgs] at h2
  split at h2
  · rename_i ok
    cases h2
    exact ⟨i, j, rfl, rfl, rgOkB_ok ok, fun q hq => ((k.mono N1).mono N2).new S2 (by rw [rgV_eq]; exact reps_rng _ _ _) hq⟩
  · cases h2
theorem lstRg_run1 {m : EX} {Q : VK} {σ : L2.St} {H : Hp} (h : lE X.K (eLstRg (aCons m aNil)) σ H Q) : tLstRg (tRg1 (lE X.K m)) σ H Q := by
  obtain ⟨μ, env, st, w, st', S, E, h, k⟩ := h
  obtain ⟨ws, s1, h1, h2⟩ := R.bind_ok h
  obtain ⟨x, s2, us, rfl, h3, h4⟩ := cons_args h1
  cases h4
  refine ⟨μ, env, st, x, _, S, E, h3, fun μ1 H1 v N1 S1 r1 => ?_⟩
  cases x <;> try cases h2
  rename_i j
  cases r1
  simp only [rngArgs] at h2
  split at h2
  · rename_i ok
    cases h2
    exact ⟨j, rfl, rgOkB_ok ok, fun q hq => (k.mono N1).new S1 (by rw [rgV_eq]; exact reps_rng _ _ _) hq⟩
  · cases h2
theorem tupRg_run {m n : EX} {Q : VK} {σ : L2.St} {H : Hp} (h : lE X.K (eTupRg (aCons m (aCons n aNil))) σ H Q) : tTupRg (tRg2 (lE X.K m) (lE X.K n)) σ H Q := by
  obtain ⟨μ, env, st, w, st', S, E, h, k⟩ := h
  obtain ⟨ws, s1, h1, h2⟩ := R.bind_ok h
  obtain ⟨x, s2, us, rfl, h3, h4⟩ := cons_args h1
  obtain ⟨y, s3, us', rfl, h5, h6⟩ := cons_args h4
  cases h6
  refine ⟨μ, env, st, x, s2, S, E, h3, fun μ1 H1 v N1 S1 r1 => ⟨μ1, env, s2, y, _, S1, E.nxt N1, h5, fun μ2 H2 u N2 S2 r2 => ?_⟩⟩
  cases x <;> try cases h2
  cases y <;> try cases h2
  rename_i i j
  cases r1
  cases r2
  simp only [rngArgs] at h2
  split at h2
  · rename_i ok
    cases h2
    exact ⟨i, j, rfl, rfl, rgOkB_ok ok, fun q hq => ((k.mono N1).mono N2).tup S2 (by rw [rgV_eq]; exact reps_rng _ _ _) hq⟩
  · cases h2
theorem tupRg_run1 {m : EX} {Q : VK} {σ : L2.St} {H : Hp} (h : lE X.K (eTupRg (aCons m aNil)) σ H Q) : tTupRg (tRg1 (lE X.K m)) σ H Q := by
  obtain ⟨μ, env, st, w, st', S, E, h, k⟩ := h
  obtain ⟨ws, s1, h1, h2⟩ := R.bind_ok h
  obtain ⟨x, s2, us, rfl, h3, h4⟩ := cons_args h1
  cases h4
  refine ⟨μ, env, st, x, _, S, E, h3, fun μ1 H1 v N1 S1 r1 => ?_⟩
  cases x <;> try cases h2
  rename_i j
  cases r1
  simp only [rngArgs] at h2
  split at h2
  · rename_i ok
    cases h2
    exact ⟨j, rfl, rgOkB_ok ok, fun q hq => (k.mono N1).tup S1 (by rw [rgV_eq]; exact reps_rng _ _ _) hq⟩
  · cases h2
theorem re_listRg1 (hX : In X N sc) {m : EX} (hg : glB sc "list" = true) (hg2 : glB sc "range" = true) (hm : X.mg "list" = none) (hm2 : X.mg "range" = none) (ha : RE X a m)
    (na : starEach [a] X.env = (false, eval a X.env) :: starEach [] X.env := by rfl) (nb : starEach [.Call (.Name "range" p2) [a] [] pos2] X.env = (false, eval (.Call (.Name "range" p2) [a] [] pos2) X.env) :: starEach [] X.env := by rfl) :
    RE X (.Call (.Name "list" p) [.Call (.Name "range" p2) [a] [] pos2] [] pos) (eLstRg (aCons m aNil)) :=
  pe_imp (pe_listRg hX.calm (hX.gl hg) hm (prg_1 (hX.gl hg2) hm2 ha na) nb) fun σ H Q h => lstRg_run1 h
theorem re_listRg2 (hX : In X N sc) {m n : EX} (hg : glB sc "list" = true) (hg2 : glB sc "range" = true) (hm : X.mg "list" = none) (hm2 : X.mg "range" = none) (ha : RE X a m) (hb : RE X b n)
    (na : starEach [a, b] X.env = (false, eval a X.env) :: starEach [b] X.env := by rfl) (nb' : starEach [b] X.env = (false, eval b X.env) :: starEach [] X.env := by rfl) (nb : starEach [.Call (.Name "range" p2) [a, b] [] pos2] X.env = (false, eval (.Call (.Name "range" p2) [a, b] [] pos2) X.env) :: starEach [] X.env := by rfl)
    (hp : (backTo pos2 (starEach [b] X.env)).any (·.1) = false := by rfl) :
    RE X (.Call (.Name "list" p) [.Call (.Name "range" p2) [a, b] [] pos2] [] pos) (eLstRg (aCons m (aCons n aNil))) :=
  pe_imp (pe_listRg hX.calm (hX.gl hg) hm (prg_2 (hX.gl hg2) hm2 ha hb na nb' hp) nb) fun σ H Q h => lstRg_run h
theorem re_tupleRg1 (hX : In X N sc) {m : EX} (hg : glB sc "tuple" = true) (hg2 : glB sc "range" = true) (hm : X.mg "tuple" = none) (hm2 : X.mg "range" = none) (ha : RE X a m)
    (na : starEach [a] X.env = (false, eval a X.env) :: starEach [] X.env := by rfl) (nb : starEach [.Call (.Name "range" p2) [a] [] pos2] X.env = (false, eval (.Call (.Name "range" p2) [a] [] pos2) X.env) :: starEach [] X.env := by rfl) :
    RE X (.Call (.Name "tuple" p) [.Call (.Name "range" p2) [a] [] pos2] [] pos) (eTupRg (aCons m aNil)) :=
  pe_imp (pe_tupRg hX.calm (hX.gl hg) hm (prg_1 (hX.gl hg2) hm2 ha na) nb) fun σ H Q h => tupRg_run1 h
theorem re_tupleRg2 (hX : In X N sc) {m n : EX} (hg : glB sc "tuple" = true) (hg2 : glB sc "range" = true) (hm : X.mg "tuple" = none) (hm2 : X.mg "range" = none) (ha : RE X a m) (hb : RE X b n)
    (na : starEach [a, b] X.env = (false, eval a X.env) :: starEach [b] X.env := by rfl) (nb' : starEach [b] X.env = (false, eval b X.env) :: starEach [] X.env := by rfl) (nb : starEach [.Call (.Name "range" p2) [a, b] [] pos2] X.env = (false, eval (.Call (.Name "range" p2) [a, b] [] pos2) X.env) :: starEach [] X.env := by rfl)
    (hp : (backTo pos2 (starEach [b] X.env)).any (·.1) = false := by rfl) :
    RE X (.Call (.Name "tuple" p) [.Call (.Name "range" p2) [a, b] [] pos2] [] pos) (eTupRg (aCons m (aCons n aNil))) :=
  pe_imp (pe_tupRg hX.calm (hX.gl hg) hm (prg_2 (hX.gl hg2) hm2 ha hb na nb' hp) nb) fun σ H Q h => tupRg_run h
end
end Rx

/-! RxJ: enumerate, zip, comprehensions of two clauses, comprehensions stored at once. -/
namespace Rx
open PySem PySem.Spec PyProof.Rows L2

/-! ### enumerate -/
set_option maxHeartbeats 1000000 in
theorem meets_enum1 {v : Value} {o : Obj} {H : Heap → Prop} (B : Begins v o H) :
    Meets (Builtin.«enumerate.__new__» ⟨[.type "enumerate", v], []⟩) (fun _ R s => H s.heap ∧
      R (.ok (.ret (.ref (s.heap.push o).objs.size))) { s with heap := (s.heap.push o).push { cls := .type "enumerate", data := .fields #[.none, .bool false, .ref s.heap.objs.size, rawInt 0, .none, .none] } }) :=
  .of_wp fun prog w A R s h => by
    obtain ⟨hp, g, d, tk, os⟩ := s
    obtain ⟨h1, h⟩ := h
    have hsub := sub_enumerate
    have q1 : ∀ {A' : Around} {E : Value → Shared → Prop} {Q : Value → Shared → Prop}, Q (.ref hp.objs.size) ⟨hp.push o, g, d, tk, os⟩ → wpAny (model prog w) A' (pyIter v) Q E ⟨hp, g, d, tk, os⟩ :=
      fun q => B.iter prog w _ _ ⟨hp, g, d, tk, os⟩ _ h1 q
    wp_walk using q1
    refine wpAny_stack_any fun st => wpAny_pure ?_
    split
    · rename_i c _ _ _ _ _
      cases (c == Value.type "enumerate")
      · wp_walk using q1
        exact ⟨_, rfl, h⟩
      · wp_walk using q1
        exact ⟨_, rfl, h⟩
    · wp_walk using q1
      exact ⟨_, rfl, h⟩
theorem enum_begins1 {prog : Program} {w : World} {A : Around} {E : Value → Shared → Prop} {s : Shared} {v : Value} {o : Obj} {H : Heap → Prop} {Q : Value → Shared → Prop} (B : Begins v o H) (h1 : H s.heap)
    (h : ∀ h', IsEnum h' (s.heap.objs.size + 1) s.heap.objs.size 0 .none → h'.get? s.heap.objs.size = some o → h'.objs.size = s.heap.objs.size + 2 →
      (∀ b o, s.heap.get? b = some o → h'.get? b = some o) → Q (.ref (s.heap.objs.size + 1)) { s with heap := h' }) :
    wpAny (model prog w) A (call (.type "enumerate") [v]) Q E s := by
  refine callType_new F.called_enumerate (by decide) (F.typeCall_enumerate_1 _) (F.newCall_enumerate_1 _) (fun obj => F.args_object_init_2 obj _) F.entry_enumerate_new
    (meets_enum1 B) ⟨h1, ?_⟩
  have hz : (s.heap.push o).objs.size = s.heap.objs.size + 1 := Heap.size_push ..
  show _ ∧ _
  rw [hz]
  have he : IsEnum ((s.heap.push o).push { cls := .type "enumerate", data := .fields #[.none, .bool false, .ref s.heap.objs.size, rawInt 0, .none, .none] }) (s.heap.objs.size + 1) s.heap.objs.size 0 .none := by
    have := Heap.get?_push_size (s.heap.push o) (o := { cls := .type "enumerate", data := .fields #[.none, .bool false, .ref s.heap.objs.size, rawInt 0, .none, .none] }) rfl
    rw [hz] at this; exact this
  refine ⟨⟨_, he, rfl⟩, h _ he (Heap.get?_push_of_some _ (Heap.get?_push_size _ B.free)) (by rw [Heap.size_push, hz]) fun b o x => Heap.get?_push_of_some _ (Heap.get?_push_of_some _ x)⟩
theorem enumT_end {prog : Program} {w : World} {A : Around} {E : Value → Shared → Prop} {s : Shared} {e it t : Addr} {i : Nat} {items : Array Value} {old : Value} {c : Int} {Q : Option Value → Shared → Prop} (hh : A.handled = none)
    (he : IsEnum s.heap e it c old) (hit : s.heap.IsTupleIter it t i) (ht : s.heap.IsTuple t items) (hx : items[i]? = none)
    (hQ : ∀ h', Heap.ExtBut it s.heap h' → Q none { s with heap := h' }) : wpAny (model prog w) A (pyNext (.ref e)) Q E s := by
  have hT : s.TypeIs (.ref e) "enumerate" := ⟨_, he, rfl⟩
  unfold pyNext
  refine wpAny_bind (wpAny_attempt (wpAny_callSpecial?_slot (name := Str.ofString "__next__") hT F.slot_enumerate_next
    (wpAny_call_entry F.slot_enumerate_next hT F.entry_enumerate_next ?_ (F.args_enumerate_next_1 _))))
  show wpAny _ _ (field (.ref e) 2 >>= _) _ _ _
  refine wpAny_bind (wpAny_field he rfl (x := .ref it) rfl ?_)
  refine wpAny_bind (wpAny_nextOf_tuple_end (A := A.in1) hh hit ht hx fun h' x he' hx' => ?_)
  obtain ⟨o, ho, hc⟩ := hx'
  refine wpAny_bind (wpAny_isInstance (T := "StopIteration") (b := true) ⟨o, ho, hc⟩ isSubtype_stop ?_)
  exact wpAny_pure (hQ _ he')
/-- the tuple at a, each item in a new pair -/
def IteT (K : PySem.W.Frag) (a : Addr) : It :=
  ⟨fun i H => ∃ (xs : List V) (x : V), SqT K H a xs ∧ xs[i]? = some x, fun i H v H' => ∃ T x, v = .ref T ∧ H T = none ∧ H' = upd H T (.tup [.int (i : Nat), x]) ∧ ∀ xs, SqT K H a xs → xs[i]? = some x, fun i H => ∃ xs : List V, SqT K H a xs ∧ xs.length ≤ i⟩
theorem turn_enumT {P : Program} {w : World} {K : PySem.W.Frag} {elts : List Expr} {kk : Nat} {tpos : Pos} (a e it : Addr) (hea : e ≠ a) (hia : a ≠ it) (hei : e ≠ it) :
    Turn P w K (.Tuple elts kk tpos) (IteT K a) [e, it] e (fun i h => (∃ old, IsEnum h e it ((i : Nat) : Int) old) ∧ h.IsTupleIter it a i) where
  mem := by simp
  obj := fun i h st b hb => by
    obtain ⟨⟨old, he⟩, ⟨o, ho, hc, hd⟩⟩ := st
    have e' : b = e ∨ b = it := by simpa using hb
    rcases e' with z | z
    · rw [z]; exact ⟨_, he, fun v q => nomatch q⟩
    · rw [z]; exact ⟨o, ho, fun v q => by rw [hd] at q; cases q⟩
  keep := fun i h h' st k => let ⟨⟨old, he⟩, hi⟩ := st; ⟨⟨old, k e (by simp) _ he⟩, hi.at fun o q => k it (by simp) o q⟩
  item := by
    intro X hP hw hK hc i pins s σ H E I hf st hg
    subst hP hw hK
    obtain ⟨⟨old, he⟩, hit⟩ := st
    obtain ⟨xs, x, hq, hx⟩ := hg
    obtain ⟨its, rv, p, hz⟩ := I.tuple hq
    obtain ⟨u, hu, ru⟩ := rv.get hx
    have hel : e < s.heap.objs.size := Heap.lt_size he
    have hil : it < s.heap.objs.size := by obtain ⟨_, q, _⟩ := hit; exact Heap.lt_size q
    have hlt : i < its.toArray.size := by
      have := (List.getElem?_eq_some_iff.mp hu).1
      simpa using this
    refine wpAny_pyNext_enum_itemC (Draws.tuple (by show X.A.in1.handled = none; exact I.ok.hd hc) it a hia its.toArray) he ⟨hit, (show s.heap.IsTuple a its.toArray from p)⟩ hlt hei (by simp [hei, hea]) fun x' h' tk hPx ho hst hT hsz hk => ?_
    have hux : x' = u := by
      have h1 : its.toArray[i]? = some x' := hPx
      have h2 : its.toArray[i]? = some u := by simpa using hu
      exact Option.some.inj (h1.symm.trans h2)
    subst hux
    obtain ⟨hit', _⟩ := hst
    refine ⟨_, rfl, wpAny_letOwnedTupleGo_enum (s := { s with heap := h', toks := tk + 1 }) ho fun h'' he' sb => ?_⟩
    have hT2 : h''.get? s.heap.objs.size = some { cls := .type "tuple", data := .seq #[.int i tk, x'] } := (sb.2 _ (Nat.ne_of_gt hel)).trans hT
    have new : ObjOk X.prog X.w (upd H s.heap.objs.size (.tup [.int (i : Nat), x])) h'' s.heap.objs.size (.tup [.int (i : Nat), x]) :=
      ⟨by show 2 ≤ sizeLine; decide, [.int i tk, x'], .cons ⟨_, rfl⟩ (.cons ru .nil), ⟨_, hT2, rfl, _, rfl⟩⟩
    have I1 : Inv X pins σ (upd H s.heap.objs.size (.tup [.int (i : Nat), x])) { s with heap := h'', toks := tk + 1 } :=
      I.turnedNew (ch := [e, it]) (fun b ob hb q => (sb.2 b (fun z => hb (by simp [z]))).trans (hk b ob (fun z => hb (by simp [z])) (fun z => hb (by simp [z])) q)) hf (Nat.le_refl _) new
    refine ⟨.ref s.heap.objs.size, _, I1, rfl, ⟨_, x, rfl, I.hok.fresh (Nat.le_refl _), rfl, fun ys hy => by rw [I.tuple_inj hy hq]; exact hx⟩, ⟨⟨x', ?_⟩, hit'.at fun o q => (sb.2 it (Ne.symm hei)).trans q⟩, fun b hb => ?_⟩
    · have e1 : ((i + 1 : Nat) : Int) = (i : Int) + 1 := by omega
      rw [e1]; exact he'
    · have hb' : b < s.heap.objs.size := by
        have e' : b = e ∨ b = it := by simpa using hb
        rcases e' with z | z
        · rw [z]; exact hel
        · rw [z]; exact hil
      rw [upd_ne (Nat.ne_of_lt hb')]
      exact (hf b hb).1
  done := by
    intro X hP hw hK hc i pins s σ H E I hf st hg
    subst hP hw hK
    obtain ⟨⟨old, he⟩, hit⟩ := st
    obtain ⟨xs, hq, hx⟩ := hg
    obtain ⟨its, rv, p, hz⟩ := I.tuple hq
    obtain ⟨f0, f1, f2, f3, f4, f5⟩ := hf it (by simp)
    have hl := rv.length
    have hT : s.TypeIs (.ref e) "enumerate" := ⟨_, he, rfl⟩
    refine enumT_end (I.ok.hd hc) he hit (show s.heap.IsTuple a its.toArray from p) (by simp; omega) fun h' eb => ⟨rfl, I.turned (t' := s.toks) (fun b o hb q => eb b o hb q) f0 f1 f3 f4 f5⟩
  self := fun A i s Q E st h => let ⟨⟨_, he⟩, _⟩ := st; wpAny_pyIter_enum he h

def iEnumA (K : PySem.W.Frag) (ta : TA) : TI := fun σ H R => ta σ H fun vs H1 => ∃ a, vs = [.ref a] ∧ ((∃ xs, SqL K H1 a xs ∧ R (Ite K a) H1) ∨ (∃ xs, SqT K H1 a xs ∧ R (IteT K a) H1))
theorem pi_enumA {X : Cx} {e : Expr} {ta : TA} {p pos tpos : Pos} {elts : List Expr} {kk : Nat} (hg : Gl X "enumerate") (hm : X.mg "enumerate" = none) (ha : PA X [e] ta) (hs : starEach [e] X.env = [(false, eval e X.env)] := by rfl) :
    PI X (.Tuple elts kk tpos) (.Call (.Name "enumerate" p) [e] [] pos) (iEnumA X.K ta) := by
  refine ⟨fun pins s σ H R I h => ?_⟩
  refine Call_ (ld_blt I hg hm boot_enumerate (PyProof.Rows.callWith_type1 (thn (ha.run pos pins s σ H _ I h) fun us s1 ⟨vs, H1, I1, r1, q1⟩ => ?_) hs rfl))
  obtain ⟨a, ex, q⟩ := q1
  subst ex
  cases r1 with
  | cons r rr =>
    cases rr
    cases r
    have fresh : ∀ b, b ∈ [s1.heap.objs.size + 1, s1.heap.objs.size] → FpOk X pins H1 b := fun b hb => by
      have e' : b = s1.heap.objs.size + 1 ∨ b = s1.heap.objs.size := by simpa using hb
      have hle : s1.heap.objs.size ≤ b := by
        rcases e' with z | z
        · rw [z]; exact Nat.le_add_right _ _
        · rw [z]; exact Nat.le_refl _
      exact I1.fpOk hle (I1.hok.fresh hle)
    rcases q with ⟨xs, hq, q⟩ | ⟨xs, hq, q⟩
    · obtain ⟨its, rv, p', hz⟩ := I1.list hq
      refine call_enumerate_list p'.isList fun h' he hit hsz hk => wpAny_pyIter_enum he ?_
      have I2 : Inv X pins σ H1 { s1 with heap := h' } := I1.kept (t' := s1.toks) hk
      exact ⟨s1.heap.objs.size + 1, [s1.heap.objs.size + 1, s1.heap.objs.size], _, _, H1, rfl, I2, turn_enum a (s1.heap.objs.size + 1) s1.heap.objs.size, ⟨⟨.none, he⟩, hit, Nat.succ_ne_self _⟩, fresh, q⟩
    · obtain ⟨its, rv, p', hz⟩ := I1.tuple hq
      have ha' : a < s1.heap.objs.size := by obtain ⟨o, ho, _⟩ := id p'; exact Heap.lt_size ho
      refine enum_begins1 (begins_tuple a its.toArray) (show s1.heap.IsTuple a its.toArray from p') fun h' he hit hsz hk => wpAny_pyIter_enum he ?_
      have I2 : Inv X pins σ H1 { s1 with heap := h' } := I1.kept (t' := s1.toks) hk
      exact ⟨s1.heap.objs.size + 1, [s1.heap.objs.size + 1, s1.heap.objs.size], _, _, H1, rfl, I2, turn_enumT a (s1.heap.objs.size + 1) s1.heap.objs.size (Ne.symm (Nat.ne_of_lt (Nat.lt_succ_of_lt ha'))) (Nat.ne_of_lt ha') (Nat.succ_ne_self _), ⟨⟨.none, he⟩, ⟨_, hit, rfl, rfl⟩⟩, fresh, q⟩
def enumW (i : Nat) : List W → List W
  | [] => []
  | x :: xs => .tup [.int (i : Nat), x] :: enumW (i + 1) xs
theorem enumW_get : ∀ (xs : List W) (i j : Nat), (enumW i xs)[j]? = (xs[j]?).map fun x => .tup [.int ((i + j : Nat) : Int), x]
  | [], _, _ => by simp [enumW]
  | x :: xs, i, 0 => by simp [enumW]
  | x :: xs, i, j + 1 => by
    simp only [enumW, List.getElem?_cons_succ]
    rw [enumW_get xs (i + 1) j]
    have : i + 1 + j = i + (j + 1) := by omega
    rw [this]
def iEnum (m : EX) : IX := fun env st => (m env st).bind fun x s1 => match x with
  | .tup xs => .ok (.fix (enumW 0 xs)) s1
  | .ls n => .ok (.en n) s1
  | .frz ns => .ok (.fix (enumW 0 (ns.map W.int))) s1
  | _ => .err
section
variable {K : PySem.W.Frag} {μ : Nat → Addr} {st : Sto} {H : Hp}
theorem yl_pair {μ' : Nat → Addr} {st' : Sto} {H' : Hp} {T : Addr} {x y : V} {w u : W} (S : Sim K μ' st' H') (r : Rep K μ' st'.length H' x w) (r' : Rep K μ' st'.length H' y u) (hT : H' T = none) :
    Nxt K μ' st'.length H' μ' st'.length (upd H' T (.tup [x, y])) ∧ Sim K μ' st' (upd H' T (.tup [x, y])) ∧ Rep K μ' st'.length (upd H' T (.tup [x, y])) (.ref T) (.tup [w, u]) :=
  ⟨Nxt.tup hT, S.tup hT, .tup (.inl upd_same) (.cons (r.nxt (Nxt.tup hT)) (.cons (r'.nxt (Nxt.tup hT)) .nil))⟩
theorem src_enT {a : Addr} {vs : List V} {ws : List W} (t : Tp K H a vs) (r : Reps K μ st.length H vs ws) : SrcOk K (IteT K a) (.fix (enumW 0 ws)) μ st.length H := fun μ' st' H' N S i => by
  have t' := (N.tp _ _ t).sq
  have r' := r.nxw N
  show match (enumW 0 ws)[i]? with
    | none => (IteT K a).stop i H'
    | some w => _
  rw [enumW_get]
  cases e : ws[i]? with
  | none => exact ⟨vs, t', by rw [r.length]; exact List.getElem?_eq_none_iff.mp e⟩
  | some w =>
    obtain ⟨v, h1, h2⟩ := r'.get e
    refine ⟨⟨vs, v, t', h1⟩, fun x H'' y => ?_⟩
    obtain ⟨T, x', rfl, hT, rfl, y⟩ := y
    have : x' = v := Option.some.inj ((y vs t').symm.trans h1)
    subst this
    have e0 : ((0 + i : Nat) : Int) = (i : Int) := by rw [Nat.zero_add]
    rw [e0]
    exact yl_pair S (.int _) h2 hT
theorem src_enL {a : Addr} {ns : List Int} (t : Fz K H a ns) : SrcOk K (Ite K a) (.fix (enumW 0 (ns.map W.int))) μ st.length H := fun μ' st' H' N S i => by
  have t' := (N.fz _ _ t).sq
  have r' : Reps K μ' st'.length H' (ns.map V.int) (ns.map W.int) := Reps.ints
  show match (enumW 0 (ns.map W.int))[i]? with
    | none => (Ite K a).stop i H'
    | some w => _
  rw [enumW_get]
  cases e : (ns.map W.int)[i]? with
  | none => exact ⟨_, t', by have := List.getElem?_eq_none_iff.mp e; simpa using this⟩
  | some w =>
    obtain ⟨v, h1, h2⟩ := r'.get e
    refine ⟨⟨_, v, t', h1⟩, fun x H'' y => ?_⟩
    obtain ⟨T, x', rfl, hT, rfl, y⟩ := y
    have : x' = v := Option.some.inj ((y _ t').symm.trans h1)
    subst this
    have e0 : ((0 + i : Nat) : Int) = (i : Int) := by rw [Nat.zero_add]
    rw [e0]
    exact yl_pair S (.int _) h2 hT
theorem ls_at {n : Nat} (hn : n < st.length) (S : Sim K μ st H) : ∃ xs vs, st[n]? = some (.lst xs) ∧ H (μ n) = some (.lst vs) ∧ Reps K μ st.length H vs xs := by
  have e1 : st[n]? = some st[n] := by simp [hn]
  obtain ⟨xs, ex⟩ : ∃ xs, st[n] = .lst xs := by
    cases st[n] with
    | lst xs => exact ⟨xs, rfl⟩
  rw [ex] at e1
  obtain ⟨vs, h1, r⟩ := S.lstAt e1
  exact ⟨xs, vs, e1, h1, r⟩
theorem src_en {n : Nat} (hn : n < st.length) : SrcOk K (Ite K (μ n)) (.en n) μ st.length H := fun μ' st' H' N S i => by
  have hn' : n < st'.length := Nat.lt_of_lt_of_le hn N.le
  obtain ⟨xs, vs, e1, h1, r⟩ := ls_at hn' S
  rw [N.mu n hn] at h1
  have t' : SqL K H' (μ n) vs := .inl (.inl h1)
  have e2 : lsAt st' n i = xs[i]? := by unfold lsAt; rw [e1]
  unfold Src.at
  simp only [e2]
  cases e : xs[i]? with
  | none => exact ⟨vs, t', by rw [r.length]; exact List.getElem?_eq_none_iff.mp e⟩
  | some w =>
    obtain ⟨v, h2, h3⟩ := r.get e
    refine ⟨⟨vs, v, t', h2⟩, fun x H'' y => ?_⟩
    obtain ⟨T, x', rfl, hT, rfl, y⟩ := y
    have : x' = v := Option.some.inj ((y vs t').symm.trans h2)
    subst this
    exact yl_pair S (.int _) h3 hT
theorem ri_enum {X : Cx} {N : List Str} {sc : Scope} (hX : In X N sc) {m : EX} {e : Expr} {p pos tpos : Pos} {elts : List Expr} {kk : Nat} (hg : glB sc "enumerate" = true) (hm : X.mg "enumerate" = none) (ha : RE X e m) (hs : Pl e := by exact fun _ _ => rfl) :
    RI X (.Tuple elts kk tpos) (.Call (.Name "enumerate" p) [e] [] pos) (iEnum m) := pi_imp (pi_enumA (hX.gl hg) hm (ra_cons ha ra_nil hs) (hs [] X.env)) fun σ H R0 ⟨μ, env, st, src, st', S, E, h, k⟩ => by
  obtain ⟨x, s1, h1, h2⟩ := R.bind_ok h
  have hA : aCons m aNil env st = .ok [x] s1 := by
    unfold aCons
    rw [h1]
    rfl
  refine ⟨μ, env, st, _, s1, S, E, hA, fun μ1 H1 vs N1 S1 r1 => ?_⟩
  match vs, r1 with
  | [v], .cons r1 .nil =>
    cases x with
    | tup xs =>
      cases h2
      obtain ⟨a, vs, rfl, t, r⟩ := rep_tup r1
      exact ⟨a, rfl, .inr ⟨vs, t.sq, k _ _ _ N1 S1 (src_enT t r)⟩⟩
    | ls n =>
      cases h2
      obtain ⟨rfl, hn⟩ := rep_ls r1
      obtain ⟨xs, q⟩ := S1.isL hn
      exact ⟨_, rfl, .inl ⟨xs, .inl (.inl q), k _ _ _ N1 S1 (src_en hn)⟩⟩
    | frz ns =>
      cases h2
      obtain ⟨a, rfl, f⟩ := rep_frz r1
      exact ⟨a, rfl, .inl ⟨_, f.sq, k _ _ _ N1 S1 (src_enL f)⟩⟩
    | _ => cases h2
/-! ### zip -/
def zipW : List W → List W → List W
  | x :: xs, y :: ys => .tup [x, y] :: zipW xs ys
  | _, _ => []
theorem zipW_get : ∀ (xs ys : List W) (i : Nat), (zipW xs ys)[i]? = match xs[i]?, ys[i]? with
    | some x, some y => some (.tup [x, y])
    | _, _ => none
  | [], _, _ => by simp [zipW]
  | x :: xs, [], i => by
    simp only [zipW, List.getElem?_nil]
    split
    · rename_i h; cases h
    · rfl
  | x :: xs, y :: ys, 0 => by simp [zipW]
  | x :: xs, y :: ys, i + 1 => by
    simp only [zipW, List.getElem?_cons_succ]
    exact zipW_get xs ys i
def iZip (m n : EX) : IX := fun env st => (m env st).bind fun x s1 => (n env s1).bind fun y s2 => match x, y with
  | .tup xs, .tup ys => .ok (.fix (zipW xs ys)) s2
  | .ls a, .ls b => .ok (.zp a b) s2
  | _, _ => .err
theorem src_zpT {a b : Addr} {vs us : List V} {ws zs : List W} (t : Tp K H a vs) (t2 : Tp K H b us) (r : Reps K μ st.length H vs ws) (r2 : Reps K μ st.length H us zs) : SrcOk K (RZ.ItzT K a b) (.fix (zipW ws zs)) μ st.length H := fun μ' st' H' N S i => by
  have t' := (N.tp _ _ t).sq
  have t2' := (N.tp _ _ t2).sq
  have r' := r.nxw N
  have r2' := r2.nxw N
  show match (zipW ws zs)[i]? with
    | none => (RZ.ItzT K a b).stop i H'
    | some w => _
  rw [zipW_get]
  cases e : ws[i]? with
  | none => exact ⟨vs, us, t', t2', .inl (by rw [r.length]; exact List.getElem?_eq_none_iff.mp e)⟩
  | some w =>
    cases e2 : zs[i]? with
    | none => exact ⟨vs, us, t', t2', .inr (by rw [r2.length]; exact List.getElem?_eq_none_iff.mp e2)⟩
    | some u =>
      obtain ⟨v, h1, h2⟩ := r'.get e
      obtain ⟨v2, h3, h4⟩ := r2'.get e2
      refine ⟨⟨vs, us, v, v2, t', t2', h1, h3⟩, fun x H'' y => ?_⟩
      obtain ⟨T, x', y', rfl, hT, rfl, q1, q2⟩ := y
      have : x' = v := Option.some.inj ((q1 vs t').symm.trans h1)
      subst this
      have : y' = v2 := Option.some.inj ((q2 us t2').symm.trans h3)
      subst this
      exact yl_pair S h2 h4 hT
theorem src_zp {a b : Nat} (ha : a < st.length) (hb : b < st.length) : SrcOk K (Itz K (μ a) (μ b)) (.zp a b) μ st.length H := fun μ' st' H' N S i => by
  obtain ⟨xs, vs, e1, h1, r⟩ := ls_at (Nat.lt_of_lt_of_le ha N.le) S
  obtain ⟨ys, us, e2, h2, r2⟩ := ls_at (Nat.lt_of_lt_of_le hb N.le) S
  rw [N.mu a ha] at h1
  rw [N.mu b hb] at h2
  have t' : SqL K H' (μ a) vs := .inl (.inl h1)
  have t2' : SqL K H' (μ b) us := .inl (.inl h2)
  have q1 : lsAt st' a i = xs[i]? := by unfold lsAt; rw [e1]
  have q2 : lsAt st' b i = ys[i]? := by unfold lsAt; rw [e2]
  unfold Src.at
  simp only [q1, q2]
  cases e : xs[i]? with
  | none => exact ⟨vs, us, t', t2', .inl (by rw [r.length]; exact List.getElem?_eq_none_iff.mp e)⟩
  | some w =>
    cases e2 : ys[i]? with
    | none => exact ⟨vs, us, t', t2', .inr (by rw [r2.length]; exact List.getElem?_eq_none_iff.mp e2)⟩
    | some u =>
      obtain ⟨v, g1, g2⟩ := r.get e
      obtain ⟨v2, g3, g4⟩ := r2.get e2
      refine ⟨⟨vs, us, v, v2, t', t2', g1, g3⟩, fun x H'' y => ?_⟩
      obtain ⟨T, x', y', rfl, hT, rfl, z1, z2⟩ := y
      have : x' = v := Option.some.inj ((z1 vs t').symm.trans g1)
      subst this
      have : y' = v2 := Option.some.inj ((z2 us t2').symm.trans g3)
      subst this
      exact yl_pair S g2 g4 hT
theorem ri_zip {X : Cx} {N : List Str} {sc : Scope} (hX : In X N sc) {m n : EX} {e e2 : Expr} {p pos tpos : Pos} {elts : List Expr} {kk : Nat} (hg : glB sc "zip" = true) (hm : X.mg "zip" = none) (ha : RE X e m) (hb : RE X e2 n) (hs : Pl e := by exact fun _ _ => rfl) (hs2 : Pl e2 := by exact fun _ _ => rfl) :
    RI X (.Tuple elts kk tpos) (.Call (.Name "zip" p) [e, e2] [] pos) (iZip m n) := pi_imp (RZ.pi_zipA (hX.gl hg) hm (ra_cons ha (ra_cons hb ra_nil hs2) hs) (hs [e2] X.env) (by rw [hs2 [] X.env]; rfl)) fun σ H R0 ⟨μ, env, st, src, st', S, E, h, k⟩ => by
  obtain ⟨x, s1, h1, h2⟩ := R.bind_ok h
  obtain ⟨y, s2, h3, h4⟩ := R.bind_ok h2
  have hA : aCons m (aCons n aNil) env st = .ok [x, y] s2 := by
    unfold aCons
    rw [h1]
    show R.bind (R.bind (n env s1) _) _ = _
    rw [h3]
    rfl
  refine ⟨μ, env, st, _, s2, S, E, hA, fun μ1 H1 vs N1 S1 r1 => ?_⟩
  match vs, r1 with
  | [v, u], .cons ra (.cons rb .nil) =>
    clear r1
    cases x with
    | tup xs =>
      cases y with
      | tup ys =>
        cases h4
        obtain ⟨a, vs, rfl, t, r⟩ := rep_tup ra
        obtain ⟨b, us, rfl, t2, r'⟩ := rep_tup rb
        exact ⟨a, b, vs, us, rfl, .inr ⟨t.sq, t2.sq, k _ _ _ N1 S1 (src_zpT t t2 r r')⟩⟩
      | _ => cases h4
    | ls a =>
      cases y with
      | ls b =>
        cases h4
        obtain ⟨rfl, la⟩ := rep_ls ra
        obtain ⟨rfl, lb⟩ := rep_ls rb
        obtain ⟨xs, q⟩ := S1.isL la
        obtain ⟨ys, q2⟩ := S1.isL lb
        exact ⟨_, _, xs, ys, rfl, .inl ⟨.inl (.inl q), .inl (.inl q2), k _ _ _ N1 S1 (src_zp la lb)⟩⟩
      | _ => cases h4
    | _ => cases h4
end

/-! ### comprehensions of two clauses -/
def compM2 (src : Src) (p : Pat) (t : TX) (it1 : IX) (p1 : Pat) (t1 : TX) (m : EX) (env : Env') : Nat → Nat → Sto → R (List W)
  | 0, _, _ => .err
  | n + 1, i, st => match src.at i st with
    | none => .ok [] st
    | some x => match p.set x st env with
      | none => .err
      | some e1 => match t e1 st with
        | .err => .err
        | .ok false s => compM2 src p t it1 p1 t1 m env n (i + 1) s
        | .ok true s => match it1 e1 s with
          | .err => .err
          | .ok src1 s2 => match compM src1 p1 t1 m (wipeE e1 p1.slots) (src1.bound s2) 0 s2 with
            | .err => .err
            | .ok ys s3 => match compM2 src p t it1 p1 t1 m env n (i + 1) s3 with
              | .err => .err
              | .ok zs s4 => .ok (ys ++ zs) s4
def eComp2 (it : IX) (p : Pat) (t : TX) (it1 : IX) (p1 : Pat) (t1 : TX) (m : EX) (vs : List Nat) : EX := fun env st => (it env st).bind fun src s1 => (compM2 src p t it1 p1 t1 m (wipeE env vs) (src.bound s1) 0 s1).bind fun ys s2 =>
  if ys.length ≤ 1000000 then .ok (.ls s2.length) (s2 ++ [.lst ys]) else .err
section
variable {X : Cx} {e a b c tg tg1 elt iter iter1 : Expr} {pos : Pos} {ifs ifs1 : List Expr} {scope : Scope} {own : List (Str × Nat)}
theorem comp2_run {it it1 : IX} {p p1 : Pat} {t t1 : TX} {m : EX} {σ : L2.St} {H : Hp} {Q : VK} {vs : List Nat} (hp : (p.slots.all fun i => decide (i ∈ vs)) = true) (h : lE X.K (eComp2 it p t it1 p1 t1 m vs) σ H Q) :
    tLc2 (lI X.K it) (gPat X.K p) (lT X.K t) (lI X.K it1) (gPat X.K p1) (lT X.K t1) (lE X.K m) vs p1.slots σ H Q := by
  obtain ⟨μ, env, st, w, st', S, E, h, k⟩ := h
  obtain ⟨src, s1, h1, h2⟩ := R.bind_ok h
  obtain ⟨ys, s2, h3, h4⟩ := R.bind_ok h2
  split at h4
  rotate_left
  · cases h4
  rename_i hz
  cases h4
  refine ⟨μ, env, st, src, s1, S, E, h1, fun J μ1 H1 N1 S1 so D hD => ?_⟩
  refine ⟨fun i m0 H => ∃ μ st rest, CSt X.K μ1 s1.length H1 D ys J src (wipeE env vs) (L2.wipe σ vs) μ st H rest ∧ compM2 src p t it1 p1 t1 m (wipeE env vs) m0 i st = .ok rest s2,
    ⟨_, μ1, s1, ys, CSt.start S1 ((E.nxt N1).wipe vs) so hD, h3⟩, ?_⟩
  rintro i m0 H2 ⟨μ2, st2, rest, c, g⟩
  cases m0 with
  | zero => cases g
  | succ m0 =>
    have q := c.so μ2 st2 H2 Nxt.refl.w c.S i
    unfold compM2 at g
    split at g
    · rename_i hn
      rw [hn] at q
      cases g
      exact .inl ⟨q, c.fin N1 hD k⟩
    · rename_i x hx
      rw [hx] at q
      obtain ⟨go, yl⟩ := q
      split at g
      · cases g
      · rename_i e1 he1
        refine .inr ⟨go, fun H => ∃ μ st rest, CSt X.K μ1 s1.length H1 D ys J src (wipeE env vs) (L2.wipe σ vs) μ st H rest ∧ compM2 src p t it1 p1 t1 m (wipeE env vs) m0 (i + 1) st = .ok rest s2, fun H' hN => ⟨m0, Nat.lt_succ_self _, hN⟩, fun xv H3 y => ?_⟩
        obtain ⟨N3, S3, r3⟩ := yl xv H3 y
        have c3 := c.step N3 S3
        refine gPat_run (vs0 := vs) S3 c3.E r3 he1 fun σ4 E4 hw => ⟨by rw [hw (nmem_of hp), wipe_wipe], ?_⟩
        cases et : t e1 st2 with
        | err => rw [et] at g; cases g
        | ok bb s5 =>
          rw [et] at g
          refine ⟨μ2, e1, st2, bb, s5, S3, E4, et, fun μ5 H5 N5 S5 => ?_⟩
          have c5 := c3.step N5 S5
          cases bb with
          | false =>
            simp only [Bool.false_eq_true, if_false]
            exact ⟨μ5, s5, rest, c5, g⟩
          | true =>
            simp only [if_true]
            cases ei : it1 e1 s5 with
            | err => simp only [ei] at g; cases g
            | ok src1 s6 =>
              simp only [ei] at g
              cases ec : compM src1 p1 t1 m (wipeE e1 p1.slots) (src1.bound s6) 0 s6 with
              | err => simp only [ec] at g; cases g
              | ok ins s7 =>
                simp only [ec] at g
                cases eo : compM2 src p t it1 p1 t1 m (wipeE env vs) m0 (i + 1) s7 with
                | err => simp only [eo] at g; cases g
                | ok zs s8 =>
                  simp only [eo] at g
                  cases g
                  refine ⟨μ5, e1, s5, src1, s6, S5, E4.nxt N5, ei, fun J1 μ6 H6 N6 S6 so1 => ?_⟩
                  have c6 := c5.step N6 S6
                  have E6 : EnvR X.K μ6 s6.length H6 (wipeE e1 p1.slots) (L2.wipe σ4 p1.slots) := ((E4.nxt N5).nxt N6).wipe _
                  refine ⟨fun j k0 H => ∃ μ st rin, CSt X.K μ1 s1.length H1 D ys J src (wipeE env vs) (L2.wipe σ vs) μ st H (rin ++ zs) ∧ EnvR X.K μ st.length H (wipeE e1 p1.slots) (L2.wipe σ4 p1.slots) ∧ SrcOk X.K J1 src1 μ st.length H ∧ compM src1 p1 t1 m (wipeE e1 p1.slots) k0 j st = .ok rin s7,
                    ⟨_, μ6, s6, ins, c6, E6, so1, ec⟩, ?_⟩
                  rintro j k0 H7 ⟨μ7, st7, rin, c7, E7, so7, g7⟩
                  cases k0 with
                  | zero => cases g7
                  | succ k0 =>
                    have q7 := so7 μ7 st7 H7 Nxt.refl.w c7.S j
                    unfold compM at g7
                    split at g7
                    · rename_i hn7
                      rw [hn7] at q7
                      cases g7
                      exact .inl ⟨q7, μ7, _, zs, c7, eo⟩
                    · rename_i x7 hx7
                      rw [hx7] at q7
                      obtain ⟨go7, yl7⟩ := q7
                      split at g7
                      · cases g7
                      · rename_i e8 he8
                        refine .inr ⟨go7, fun H => ∃ μ st rin, CSt X.K μ1 s1.length H1 D ys J src (wipeE env vs) (L2.wipe σ vs) μ st H (rin ++ zs) ∧ EnvR X.K μ st.length H (wipeE e1 p1.slots) (L2.wipe σ4 p1.slots) ∧ SrcOk X.K J1 src1 μ st.length H ∧ compM src1 p1 t1 m (wipeE e1 p1.slots) k0 (j + 1) st = .ok rin s7, fun H' hN => ⟨k0, Nat.lt_succ_self _, hN⟩, fun xv8 H8 y8 => ?_⟩
                        obtain ⟨N8, S8, r8⟩ := yl7 xv8 H8 y8
                        have c8 := c7.step N8 S8
                        have E8 := E7.nxt N8
                        have so8 := so7.mono N8.w
                        refine gPat_run (vs0 := p1.slots) S8 E8 r8 he8 fun σ9 E9 hw9 => ⟨by rw [hw9 (fun i hi => hi), wipe_wipe], ?_⟩
                        cases et9 : t1 e8 st7 with
                        | err => rw [et9] at g7; cases g7
                        | ok b9 s9 =>
                          rw [et9] at g7
                          refine ⟨μ7, e8, st7, b9, s9, S8, E9, et9, fun μ10 H10 N10 S10 => ?_⟩
                          have c10 := c8.step N10 S10
                          have E10 := E8.nxt N10
                          have so10 := so8.mono N10.w
                          cases b9 with
                          | false =>
                            simp only [Bool.false_eq_true, if_false]
                            exact ⟨μ10, s9, rin, c10, E10, so10, g7⟩
                          | true =>
                            simp only [if_true]
                            cases em : m e8 s9 with
                            | err => simp only [em] at g7; cases g7
                            | ok y s11 =>
                              simp only [em] at g7
                              cases er : compM src1 p1 t1 m (wipeE e1 p1.slots) k0 (j + 1) s11 with
                              | err => simp only [er] at g7; cases g7
                              | ok ys' s12 =>
                                simp only [er] at g7
                                cases g7
                                refine ⟨μ10, e8, s9, y, s11, S10, E9.nxt N10, em, fun μ11 H11 yv N11 S11 r11 => ?_⟩
                                have c11 := c10.step N11 S11
                                obtain ⟨us, d11, hz11, c12⟩ := c11.app (rest := ys' ++ zs) r11 hz
                                have P : NxtD D X.K μ11 s11.length H11 μ11 s11.length (upd H11 D (.lst (us ++ [yv]))) := NxtD.put d11
                                exact ⟨us, d11, hz11, μ11, s11, ys', c12, (E10.nxt N11).nxw P.w, (so10.mono N11.w).mono P.w, er⟩
theorem re_comp2 {N : List Str} {sc : Scope} (hX : In X N sc) {it it1 : IX} {p p1 : Pat} {t t1 : TX} {m : EX} (hi : RI X tg iter it) (ok : blkC N sc scope own = true) (hp : (p.slots.all fun i => decide (i ∈ own.map (·.2))) = true) (hv : (p1.slots.all fun i => decide (i ∈ own.map (·.2))) = true)
    (hg : ∀ (s : Shared) (H : Hp) (C : Addr) (cl : List (Str × Addr)) (fp : List Addr), RG (X.blk s H scope (compEnvC scope cl C X.env) fp) tg p) (ht : ∀ (s : Shared) (H : Hp) (C : Addr) (cl : List (Str × Addr)) (fp : List Addr), RTs (X.blk s H scope (compEnvC scope cl C X.env) fp) ifs t)
    (hi1 : ∀ (s : Shared) (H : Hp) (C : Addr) (cl : List (Str × Addr)) (fp : List Addr), RI (X.blk s H scope (compEnvC scope cl C X.env) fp) tg1 iter1 it1)
    (hg1 : ∀ (s : Shared) (H : Hp) (C : Addr) (cl : List (Str × Addr)) (fp : List Addr), RG (X.blk s H scope (compEnvC scope cl C X.env) fp) tg1 p1) (ht1 : ∀ (s : Shared) (H : Hp) (C : Addr) (cl : List (Str × Addr)) (fp : List Addr), RTs (X.blk s H scope (compEnvC scope cl C X.env) fp) ifs1 t1)
    (he : ∀ (s : Shared) (H : Hp) (C : Addr) (cl : List (Str × Addr)) (fp : List Addr), RE (X.blk s H scope (compEnvC scope cl C X.env) fp) elt m) (hs : ∀ x, foldedSetIterable iter X.env x = pure x := by intro _; rfl) (hs1 : ∀ env x, foldedSetIterable iter1 env x = pure x := by intro _ _; rfl) :
    RE X (.ListComp elt [⟨tg, iter, ifs, 0⟩, ⟨tg1, iter1, ifs1, 0⟩] scope pos) (eComp2 it p t it1 p1 t1 m (own.map (·.2))) :=
  pe_imp (pe_lc2 hX.calm (by rw [hX.n]; exact hX.nd) hi (blk_ok hX ok) (nmem_of hv) hg ht hi1 hg1 ht1 he hs hs1) fun σ H Q h => comp2_run hp h
/-- a value's reading, on a store of its own -/
theorem fr_run {vs : List Nat} {m : EX} {σ : L2.St} {H : Hp} {Q : VK} (h : lE X.K (frE vs m) σ H Q) : lE X.K m σ H Q := by
  obtain ⟨μ, env, st, w, st', S, E, h, k⟩ := h
  unfold frE at h
  split at h
  · rename_i hl
    obtain ⟨w0, s0, h1, k1⟩ := KE.pure S h k
    exact ⟨μ, _, [], w0, s0, Sim.nil, E.pick hl, h1, k1⟩
  · exact ⟨μ, env, st, w, st', S, E, h, k⟩
/-- name = [..] on one line, the name local -/
theorem rs_setC {N : List Str} {sc : Scope} (hX : In X N sc) {i : Nat} {y : Str} {py : Pos} {spos : Pos} {it : IX} {p : Pat} {t : TX} {m : EX} (vs : List Nat) (hy : ixOk N i y = true) (hyl : locB sc y = true)
    (hsw : ∀ env : Env, env.scope = sc → swapsWith (.ListComp elt [⟨tg, iter, ifs, 0⟩] scope pos) (some (.Name y py)) spos.line env = pure true) (hi : RI X tg iter it) (ok : blkC N sc scope own = true) (hp : (p.slots.all fun i => decide (i ∈ own.map (·.2))) = true)
    (hg : ∀ (s : Shared) (H : Hp) (C : Addr) (cl : List (Str × Addr)) (fp : List Addr), RG (X.blk s H scope (compEnvC scope cl C X.env) fp) tg p) (ht : ∀ (s : Shared) (H : Hp) (C : Addr) (cl : List (Str × Addr)) (fp : List Addr), RTs (X.blk s H scope (compEnvC scope cl C X.env) fp) ifs t)
    (he : ∀ (s : Shared) (H : Hp) (C : Addr) (cl : List (Str × Addr)) (fp : List Addr), RE (X.blk s H scope (compEnvC scope cl C X.env) fp) elt m) (hs : ∀ x, foldedSetIterable iter X.env x = pure x := by intro _; rfl) :
    RS X (.Assign [.Name y py] (.ListComp elt [⟨tg, iter, ifs, 0⟩] scope pos) spos) (sPat (.nm i) (frE vs (eComp it p t m (own.map (·.2))))) :=
  ps_imp (ps_setLc (i := i) hX.calm (by rw [hX.n]; exact hX.nd) (by rw [hX.n]; exact of_decide_eq_true hy) (locB_ok hX hyl) (hsw X.env hX.s) hi (blk_ok hX ok) hg ht he hs) fun D σ H h => comp_run hp (fr_run (asg_run h))
theorem rs_setC2 {N : List Str} {sc : Scope} (hX : In X N sc) {i : Nat} {y : Str} {py : Pos} {spos : Pos} {it it1 : IX} {p p1 : Pat} {t t1 : TX} {m : EX} (vs : List Nat) (hy : ixOk N i y = true) (hyl : locB sc y = true)
    (hsw : ∀ env : Env, env.scope = sc → swapsWith (.ListComp elt [⟨tg, iter, ifs, 0⟩, ⟨tg1, iter1, ifs1, 0⟩] scope pos) (some (.Name y py)) spos.line env = pure true) (hi : RI X tg iter it) (ok : blkC N sc scope own = true) (hp : (p.slots.all fun i => decide (i ∈ own.map (·.2))) = true) (hv : (p1.slots.all fun i => decide (i ∈ own.map (·.2))) = true)
    (hg : ∀ (s : Shared) (H : Hp) (C : Addr) (cl : List (Str × Addr)) (fp : List Addr), RG (X.blk s H scope (compEnvC scope cl C X.env) fp) tg p) (ht : ∀ (s : Shared) (H : Hp) (C : Addr) (cl : List (Str × Addr)) (fp : List Addr), RTs (X.blk s H scope (compEnvC scope cl C X.env) fp) ifs t)
    (hi1 : ∀ (s : Shared) (H : Hp) (C : Addr) (cl : List (Str × Addr)) (fp : List Addr), RI (X.blk s H scope (compEnvC scope cl C X.env) fp) tg1 iter1 it1)
    (hg1 : ∀ (s : Shared) (H : Hp) (C : Addr) (cl : List (Str × Addr)) (fp : List Addr), RG (X.blk s H scope (compEnvC scope cl C X.env) fp) tg1 p1) (ht1 : ∀ (s : Shared) (H : Hp) (C : Addr) (cl : List (Str × Addr)) (fp : List Addr), RTs (X.blk s H scope (compEnvC scope cl C X.env) fp) ifs1 t1)
    (he : ∀ (s : Shared) (H : Hp) (C : Addr) (cl : List (Str × Addr)) (fp : List Addr), RE (X.blk s H scope (compEnvC scope cl C X.env) fp) elt m) (hs : ∀ x, foldedSetIterable iter X.env x = pure x := by intro _; rfl) (hs1 : ∀ env x, foldedSetIterable iter1 env x = pure x := by intro _ _; rfl) :
    RS X (.Assign [.Name y py] (.ListComp elt [⟨tg, iter, ifs, 0⟩, ⟨tg1, iter1, ifs1, 0⟩] scope pos) spos) (sPat (.nm i) (frE vs (eComp2 it p t it1 p1 t1 m (own.map (·.2))))) :=
  ps_imp (ps_setLc2 (i := i) hX.calm (by rw [hX.n]; exact hX.nd) (by rw [hX.n]; exact of_decide_eq_true hy) (locB_ok hX hyl) (hsw X.env hX.s) hi (blk_ok hX ok) (nmem_of hv) hg ht hi1 hg1 ht1 he hs hs1) fun D σ H h => comp2_run hp (fr_run (asg_run h))
end
end Rx

/-! RxK: the head of a law: its facts, a hook with a look of one's own, the law's end. -/
namespace Rx
open PySem PySem.Spec PyProof.Rows L2

theorem fun_ofD {K : PySem.W.Frag} {x : Str} {st : Stmt} {f : Addr} {fd : FuncData} (F : FunD K x x (defArgs st) (defBody st) (defScope st) [] [] f fd) : Fun K x x st f fd := by
  obtain ⟨oc, od, dV, kV, doc, pm, an, cdv, ct, osl, e, lk, hcd, hd, _⟩ := F.ex
  have hn : dV = .none := by
    rcases hd with ⟨_, h⟩ | ⟨h, _⟩
    · exact h
    · exact absurd rfl h
  subst hn
  exact ⟨⟨oc, od, kV, doc, pm, an, cdv, ct, osl, e, lk, hcd⟩, F.kp⟩
/-- a def's datum -/
def dat1 (at_ x : Str) (st : Stmt) : He.DefD := ⟨(at_, none), x, x, defArgs st, defBody st, defScope st, [], []⟩
/-! ### a hook with one more look -/
def obsK (ck : PySem.W.Frag → Bool) (fa : List He.Fa) (fn : List He.DefD) (K : PySem.W.Frag) : He.AlD := ((fa.all fun f => f.ok K) && ((fn.all fun d => d.ok K) && ck K), fn.map fun d => He.fnW K d.at_)
def Tells (ck : PySem.W.Frag → Bool) (fa : List He.Fa) (fn : List He.DefD) (K : PySem.W.Frag) : Prop := obsK ck fa fn K = He.valD fn
def obsKG (n : Nat) (ck : PySem.W.Frag → Bool) (fa : List He.Fa) (fn : List He.DefD) (g : Addr → Option Obj) : He.AlD := obsK ck fa fn (He.frG g (He.asD g n))
def hookK (n : Nat) (ck : PySem.W.Frag → Bool) (fa : List He.Fa) (fn : List He.DefD) : PySem.W.Hook where
  α := He.AlD
  obs := fun s => obsKG n ck fa fn s.heap.get?
  val := fun _ => He.valD fn
  says := fun _ h => ∃ K : PySem.W.Frag, K.In h ∧ Tells ck fa fn K
  of := fun _ _ e => ⟨_, He.frG_in, e⟩
  keeps := fun _ _ _ ⟨K, hK, c⟩ k => ⟨K, PySem.W.Frag.In.keeps hK k, c⟩
theorem obsKG_eq {n : Nat} {ck : PySem.W.Frag → Bool} {fa : List He.Fa} {fn : List He.DefD} {g : Addr → Option Obj} {s : Shared} (h : ∀ a, g a = s.heap.get? a) : obsKG n ck fa fn g = (hookK n ck fa fn).obs s := by
  have e : g = s.heap.get? := funext h
  rw [e]
  rfl
section
variable {ck : PySem.W.Frag → Bool} {fa : List He.Fa} {fn : List He.DefD} {K : PySem.W.Frag}
theorem Tells.all (c : Tells ck fa fn K) : (fa.all fun f => f.ok K) = true ∧ (fn.all fun d => d.ok K) = true ∧ ck K = true := by
  have c1 : ((fa.all fun f => f.ok K) && ((fn.all fun d => d.ok K) && ck K)) = true := congrArg (fun z : He.AlD => z.1) c
  rw [Bool.and_eq_true, Bool.and_eq_true] at c1
  exact c1
theorem Tells.fact (c : Tells ck fa fn K) {f : He.Fa} (h : f ∈ fa) : f.ok K = true := List.all_eq_true.mp c.all.1 f h
theorem Tells.def_ (c : Tells ck fa fn K) (i : Nat) {d : He.DefD} (h : fn[i]? = some d) : ∃ fd, FunD K d.name d.qual d.params d.body d.scope (d.dvs K) (d.kws K) (He.fAd K d.at_) fd := by
  have e : fn.map (fun d => He.fnW K d.at_) = fn.map He.DefD.val := congrArg (fun z : He.AlD => z.2) c
  have e2 : (fn.map fun d => He.fnW K d.at_)[i]? = (fn.map He.DefD.val)[i]? := by rw [e]
  rw [List.getElem?_map, List.getElem?_map, h] at e2
  exact He.DefD.funD (Option.some.inj e2) (List.all_eq_true.mp c.all.2.1 d (List.mem_of_getElem? h))
/-- a def of the text, under its name -/
theorem Tells.fun_ (c : Tells ck fa fn K) {h : Heap} {mg : Str → Option Value} (X : K.In h) (G : h.Ns mainGlobals mg) {x y : Str} {st : Stmt} (i : Nat) (hi : fn[i]? = some (dat1 x y st)) (hg : He.Fa.glo x ∈ fa) : ∃ a fd, Fun K y y st a fd ∧ mg x = some (.ref a) := by
  obtain ⟨fd, F⟩ := c.def_ i hi
  exact ⟨_, fd, fun_ofD F, He.glo_ok X G (c.fact hg)⟩
theorem Tells.bn (c : Tells ck fa fn K) {h : Heap} {mg : Str → Option Value} (X : K.In h) (G : h.Ns mainGlobals mg) (hb : ∀ x ∈ bnames, He.Fa.free x ∈ fa) : Bn mg := fun x hx => He.free_ok X G (c.fact (hb x hx))
theorem Tells.int (c : Tells ck fa fn K) {h : Heap} {mg : Str → Option Value} (X : K.In h) (G : h.Ns mainGlobals mg) {x : Str} {i : Int} (hf : He.Fa.int x i ∈ fa) : ∃ t, mg x = some (.int i t) := He.int_ok X G (c.fact hf)
/-- a tuple of plain things, by a look -/
theorem tupC {h : Heap} {mg : Str → Option Value} (X : K.In h) (G : h.Ns mainGlobals mg) (c : Tells ck fa fn K) {x : Str} {vs : List He.Dv} {us : List V} (hg : He.Fa.glo x ∈ fa) (hb : He.tupB K x vs = true) (hv : vs.map (He.Dv.v K) = us) : ∃ a, mg x = some (.ref a) ∧ SqT K (fun _ => none) a us := by
  rw [← hv]
  exact ⟨_, He.glo_ok X G (c.fact hg), He.tupB_ok hb _⟩
def bltB (K : PySem.W.Frag) (x : Str) (id : String) : Bool := He.eqO (PySem.W.nsIn K mainGlobals x) (some (some (.builtin id)))
theorem bltB_ok {h : Heap} {mg : Str → Option Value} (X : K.In h) (G : h.Ns mainGlobals mg) {x : Str} {id : String} (c : bltB K x id = true) : mg x = some (.builtin id) := PySem.W.mg_of X G (He.eqO_ok c)
end
/-- what a law comes to -/
theorem lP_law {E : XK} {K : PySem.W.Frag} {f : FX} {H : Hp} {a : Addr} {ns : List Int} (hO : Only H) (hS : SqL K H a (ns.map V.int)) (h : ∃ st', f [.frz ns] [] = .ok (.bl true) st') : lP K 1 f [.ref a] H (fun v _ => v = .bl true) E := by
  obtain ⟨st', e⟩ := h
  refine ⟨rfl, fun _ => a, [], [.frz ns], .bl true, st', Sim.nil, .cons (.frz ?_) .nil, e, fun μ' H' v _ _ r => ?_⟩
  · rcases hS with (h | h) | h
    · rcases hO a with q | ⟨o, xs, q⟩
      · rw [q] at h; cases h
      · rw [q] at h; cases h
    · exact .inl h
    · exact .inr h
  · cases r
    rfl
end Rx

/-! RxX: a def that raises an own error (a class of the text, no fields), caught by one handler with a name. -/
namespace Rx
open PySem PySem.Spec PyProof.Rows L2

section
variable {X : Cx}
theorem ps_nox {st : Stmt} {t : TS} (h : PS X.nox st t) : PS X st t := ⟨fun pins s σ H D I hw =>
  wpAny_mono (h.run pins s σ H D (I.wish _) hw) (fun _ _ q => q.unwish) fun _ _ z => z.elim⟩
/-- a, b = e where the stores' order hangs on the names' kinds -/
theorem rs_asgS {N : List Str} {sc : Scope} (hX : In X N sc) {tg e : Expr} {pos : Pos} {p : Pat} {m : EX} (hg : RG X tg p) (he : RE X e m) (hw : ∀ env : Env, env.scope = sc → swappedStores [tg] e env = pure none) (hs : swapsWithSole [tg] e pos.line X.env = pure false := by rfl)
    (h1 : (assignEach [tg] X.env).map (·.2) = [assign tg X.env] := by rfl) : RS X (.Assign [tg] e pos) (sPat p m) := rs_asg hg he hs (hw X.env hX.s) h1
theorem rs_tgsS {N : List Str} {sc : Scope} (hX : In X N sc) {e : Expr} {pos : Pos} {ts : List Tg} {m : EX} {es : List Expr} {k0 : Nat} {tpos : Pos} (hg : PGs X es (gTgs X.K ts)) (he : RE X e m) (hw : ∀ env : Env, env.scope = sc → swappedStores [.Tuple es k0 tpos] e env = pure none) (hn : (assignEach es X.env).length = ts.length := by rfl) (hst : (assignEach es X.env).findIdx? (·.1) = none := by rfl) (hs : swapsWithSole [.Tuple es k0 tpos] e pos.line X.env = pure false := by rfl)
    (h1 : (assignEach [.Tuple es k0 tpos] X.env).map (·.2) = [assign (.Tuple es k0 tpos) X.env] := by rfl) : RS X (.Assign [.Tuple es k0 tpos] e pos) (sTgs ts m) := rs_tgs hX hg he hn hst hs (hw X.env hX.s) h1
/-- a try whose body raises nothing -/
theorem rs_try {N : List Str} {sc : Scope} (hX : In X N sc) {body : List Stmt} {h₀ : ExceptHandler} {hs : List ExceptHandler} {pos : Pos} {m : SX} (hb : RSs X body m) : RS X (.Try body (h₀ :: hs) [] [] pos) m :=
  ps_imp (ps_try_never (by rw [hX.nox]; exact fun _ _ z => z) hb pss_nil) fun D σ H h => h
/-- C() -/
theorem pmk_own0 {C : Addr} {bmB : List Value} {B newId initId : String} {x : Str} {p pos : Pos} (F : ExcBaseFacts B newId initId bmB) (q : PySem.W.excIn X.K C bmB newId = true) (gC : X.mg x = some (.ref C)) (kC : PySem.W.keepIn X.K (.ref C) = true) (r : Raises X (.ref C)) (hg : Gl X x)
    (hdb : (x == ("__debug__" : Str)) = false) : PMk X (.Call (.Name x p) [] [] pos) (fun _ H Q => Q (.ref C) none H) := by
  intro pins s σ H Q I h
  refine wpAny_Call_Name_kw (ld_glob I hg gC ?_ hdb)
  refine PySem.W.callWith_K0 I.kIn kC ?_
  show wpAny _ _ (call (.ref C) []) _ _ _
  obtain ⟨bm, N, nm, qn, bs, hdct, sn, sub, ab, col, dd, k0, k1, k2, k3, k5, mN, hC, hN, hni, T⟩ := exc_obj I.kIn q
  refine wpAny_call_exc_subT F T hC hN hni (fun h' e hm => ?_) (Nat.zero_le _)
  exact mk_of I hm r h (I.hok.gone hm.new)
end
/-- what is told of the class of an error -/
structure ErrC (K : PySem.W.Frag) (mg : Str → Option Value) (x : Str) (C : Addr) : Prop where
  mg_ : mg x = some (.ref C)
  ex : PySem.W.excIn K C He.veBase "ValueError.__new__" = true
  kp : PySem.W.keepIn K (.ref C) = true
  sub : PySem.W.subIn K (.ref C) (.type "BaseException") = some true
  ty : PySem.W.typeIn K (.ref C) = some (.type "type")
  exm : PySem.W.exmOne K (.ref C) (.ref C) = some true
  cls : ExcC K C
  val : PySem.W.kitOne K (.ref C) (.type "ValueError") = some true
def errB (K : PySem.W.Frag) (x : Str) : Bool :=
  let C := He.ga K x
  He.eqO (PySem.W.nsIn K mainGlobals x) (some (some (.ref C))) && (PySem.W.excIn K C He.veBase "ValueError.__new__" && (PySem.W.keepIn K (.ref C) && (decide (PySem.W.subIn K (.ref C) (.type "BaseException") = some true) && (decide (PySem.W.typeIn K (.ref C) = some (.type "type")) &&
  (decide (PySem.W.exmOne K (.ref C) (.ref C) = some true) && (decide (PySem.W.kitOne K (.ref C) (.type "ValueError") = some true) &&
  (He.eqO (PySem.W.findIn K (.ref C) "__getattribute__") (some (some (.builtin "BaseException.__getattribute__"))) && (He.eqO (PySem.W.findIn K (.ref C) "__getattr__") (some none) && (PySem.W.hasDictIn K C &&
  (He.eqO (PySem.W.findIn K (.ref C) "__class__") (some (some (.builtin "object.__class__"))) && (He.eqO (PySem.W.specialIn K (.builtin "object.__class__") "__get__") (some (some (.builtin "getset_descriptor.__get__"))) && (decide (PySem.W.takesIn K (.builtin "object.__class__") = some true) && decide (PySem.W.mroIn K C (.type "object") = some true)))))))))))))
theorem errB_ok {K : PySem.W.Frag} {h : Heap} {mg : Str → Option Value} (X : K.In h) (G : h.Ns mainGlobals mg) {x : Str} (c : errB K x = true) : ErrC K mg x (He.ga K x) := by
  unfold errB at c
  simp only [Bool.and_eq_true, decide_eq_true_eq] at c
  obtain ⟨c1, c2, c3, c4, c5, c6, c7, c8, c9, c10, c11, c12, c13, c14⟩ := c
  exact ⟨PySem.W.mg_of X G (He.eqO_ok c1), c2, c3, c4, c5, c6, ⟨He.eqO_ok c8, He.eqO_ok c9, c4, c10, He.eqO_ok c11, He.eqO_ok c12, c13, c14⟩, c7⟩

section
variable {P : Program} {w : World} {K : PySem.W.Frag} {mg : Str → Option Value} {base : Heap}
/-- after the statement m, the test mc stands: the error C is raised -/
def rP (K : PySem.W.Frag) (nN np : Nat) (m : SX) (mc : TX) (C : Addr) : Sp := fun vs H _ E => vs.length = np ∧ ∃ μ st ws env1 s1 s2, Sim K μ st H ∧ Reps K μ st.length H vs ws ∧ m (ws.map some ++ List.replicate (nN - np) none) st = .ok (.nx env1) s1 ∧ mc env1 s1 = .ok true s2 ∧
  ∀ μ' H', Nxt K μ st.length H μ' s2.length H' → Sim K μ' s2 H' → E (.ref C) none H'
theorem fn_raise {x qual y : Str} {st : Stmt} {f C : Addr} {fd : FuncData} {N ps : List Str} {k : Nat} {m : SX} {mc : TX} {s1 : Stmt} {c : Expr} {rest : List Stmt} {p p2 p3 p4 : Pos} (F : Fun K x qual st f fd) (S : FnScope N ps (defScope st)) (er : ErrC K mg y C)
    (hbody : defBody st = s1 :: .If c [.Raise (some (.Call (.Name y p) [] [] p2)) none p3] [] p4 :: rest) (hy : glB (defScope st) y = true) (hdb : (y == ("__debug__" : Str)) = false)
    (h1 : ∀ X, InF X N (defScope st) → Gx X P w K mg base → Room k X.A → RS X s1 m) (h2 : ∀ X, InF X N (defScope st) → Gx X P w K mg base → Room k X.A → RT X c mc) :
    FnOk P w K mg base (L2.CX P w) (k + 1) f fd ps (rP K N.length ps.length m mc C) := by
  refine F.okX S (fun vs H Q E h => h.1) fun cdv A outer s H vs Q E hr h => ?_
  obtain ⟨hl, μ, st0, ws, env1, st1, st2, Sm, r, e1, e2, k0⟩ := h
  have hX : ∀ {X : Cx}, X = (cxOf (L2.CX P w) P w K mg base N qual (defScope st) f cdv A outer s H E).nox → InF X N (defScope st) ∧ Gx X P w K mg base ∧ Room k X.A := by
    rintro X rfl
    exact ⟨⟨⟨rfl, rfl, rfl, rfl, S.nd, hr.mono (Nat.zero_le _)⟩, fun _ _ => rfl⟩, ⟨rfl, rfl, rfl, rfl, rfl⟩, hr⟩
  obtain ⟨i1, i2, i3⟩ := hX rfl
  have tk : Takes (cxOf (L2.CX P w) P w K mg base N qual (defScope st) f cdv A outer s H E) (fun cls d _ H => E cls d H) := takes_of rfl rfl rfl rfl
  have hg : Gl (cxOf (L2.CX P w) P w K mg base N qual (defScope st) f cdv A outer s H E) y := by
    have := i1.toIn.gl hy
    exact this
  have hraise := ps_raise (pos := p3) (e := .Call (.Name y p) [] [] p2) rfl tk (pmk_own0 (X := cxOf (L2.CX P w) P w K mg base N qual (defScope st) f cdv A outer s H E) PySem.F.excBase_ValueError er.ex er.mg_ er.kp (raises_own er.sub er.ty) hg hdb)
  refine ⟨_, by rw [hbody]; exact pss_cons (ps_nox (h1 _ i1 i2 i3)) (pss_cons (ps_if (PT.nox (h2 _ i1 i2 i3)) (pss_one hraise) pss_nil) pss_never), ?_⟩
  have hlen : ws.length = ps.length := by rw [← r.length]; exact hl
  refine ⟨μ, _, st0, _, _, Sm, envR_start r hlen, e1, fun μ' H' N' S' σ' E' => ?_⟩
  refine ⟨μ', env1, st1, true, st2, S', E', e2, fun μ2 H2 N2 S2 => ?_⟩
  show if true = true then _ else _
  rw [if_pos rfl]
  exact k0 _ _ (N'.trans N2) S2
end

/-! ### f(k = v, ..) that may raise -/
section
variable {X : Cx} {CX : CXT} {k : Nat} {f : Addr} {fd : FuncData} {ps : List Str} {sp : Sp} {E : L2.St → XK} {x : Str} {p pos : Pos} {kws : List Keyword} {t : TA}
theorem pe_callKS (F : FnOk X.prog X.w X.K X.mg X.base CX k f fd ps sp) (hr : Room k X.A) (hg : Gl X x) (hm : X.mg x = some (.ref f)) (hk : PySem.W.keepIn X.K (.ref f) = true)
    (hb : ∀ (s : Shared) (ws : List Value), ws.length = ps.length → BindsTo s fd ⟨[], ps.zip ws⟩ (ps.zip ws)) (hx : ∀ σ, PassesAt CX X σ (E σ)) (hkw : PK X kws t)
    (hall : (backToKw pos (keywordEach kws X.env)).all (·.1.isSome) = true) (hks : (backToKw pos (keywordEach kws X.env)).filterMap (·.1) = ps)
    (hdb : (x == ("__debug__" : Str)) = false)
    (hpl : ((backTo pos (starEach [] X.env)).any (·.1) || (backToKw pos (keywordEach kws X.env)).any (·.1.isNone)) = false) : PE X (.Call (.Name x p) [] kws pos) (tCallS sp E t) := by
  refine ⟨fun pins s σ H Q I h => ?_⟩
  refine wpAny_Call_Name_kw (ld_glob I hg hm ?_ hdb)
  refine PySem.W.callWith_KW0 (h₀ := X.base) I.ok.mod.kin hk hall (thn (hkw.run pos pins s σ H _ I h) fun ws s2 ⟨zs, H2, I2, rz, q2⟩ => ⟨I2.kIn, ?_⟩) hpl
  rw [hks]
  have hl : ws.length = ps.length := by rw [← rz.length]; exact F.len _ _ _ _ q2
  refine wpAny_call (codeAny_mono (F.run X.A X.stack s2 H2 ⟨[], ps.zip ws⟩ ws zs Q (E σ) hr I2.env0 (hb s2 ws hl) rz q2) fun r s' hq => ?_)
  cases r with
  | error e => exact hx σ pins H2 s2 e s' I2 hq
  | ok fl =>
    cases fl with
    | ret u => exact I2.after hq
    | next => exact False.elim hq
    | brk => exact False.elim hq
    | cont => exact False.elim hq
end
end Rx

/-! RxL: how mirrors are worked out. -/
namespace Rx
open PySem PySem.Spec PyProof.Rows L2
section
variable {f : FX} {ws : List W} {st s s' : Sto} {w x y : W} {vs : List Nat} {m ma mb : EX} {t u : TX} {env e : Env'} {b : Bool} {n : Nat} {xs : List W} {p q : SX} {g : W → W → Sto → R W} {i : Nat}
def isLs : W → Bool
  | .ls _ => true
  | _ => false
theorem fr_ok (h : lowE env vs = true) (h2 : m (pickE env vs) [] = .ok w s) (hw : w.low 0 = true) : frE vs m env st = .ok w st := by
  unfold frE
  rw [if_pos h, h2]
  show (if w.low 0 = true then _ else _) = _
  rw [if_pos hw]
theorem fr_no (h : lowE env vs = false) : frE vs m env st = m env st := by
  unfold frE
  rw [if_neg (by rw [h]; exact Bool.false_ne_true)]
theorem frT_ok (h : lowE env vs = true) (h2 : t (pickE env vs) [] = .ok b s) : frT vs t env st = .ok b st := by
  unfold frT
  rw [if_pos h, h2]
  rfl
theorem callM_ok (hl : W.lows 0 ws = true) (h : f ws [] = .ok w s) (hw : w.low 0 = true) : callM f ws st = .ok w st := by
  unfold callM
  rw [if_pos hl, h]
  show (if w.low 0 = true then _ else _) = _
  rw [if_pos hw]
theorem callM_ls (hl : W.lows 0 ws = true) (h : f ws [] = .ok (.ls n) s) (e : s[n]? = some (.lst xs)) (hx : W.lows 0 xs = true) : callM f ws st = .ok (.ls st.length) (st ++ [.lst xs]) := by
  unfold callM
  rw [if_pos hl, h]
  unfold pureR
  simp only []
  rw [if_neg (by simp [W.low])]
  simp only [e]
  rw [if_pos hx]
theorem callM_sh (hl : W.lows 0 ws = false) (h : f ws st = .ok w s) (len : s.length = st.length) (hw : isLs w = false) : callM f ws st = .ok w s := by
  unfold callM
  rw [if_neg (by rw [hl]; exact Bool.false_ne_true), h]
  unfold trimR
  have e : s.take st.length = s := by rw [← len]; exact List.take_length
  simp only [e]
  split
  · split
    · rfl
    · cases w <;> first | rfl | cases hw
  · rfl
theorem mk_rt {nN np : Nat} (hl : ws.length = np) (h : p (ws.map some ++ List.replicate (nN - np) none) st = .ok (.rt w) s) : mkFn nN np p ws st = .ok w s := by
  unfold mkFn
  rw [if_pos hl, h]
theorem seq_nx (h : p env st = .ok (.nx e) s) : sSeq p q env st = q e s := by
  unfold sSeq
  rw [h]
theorem seq_rt (h : p env st = .ok (.rt w) s) : sSeq p q env st = .ok (.rt w) s := by
  unfold sSeq
  rw [h]
theorem pat_nm (h : m env st = .ok w s) : sPat (.nm i) m env st = .ok (.nx (env.set i (some w))) s := by
  unfold sPat
  rw [h]
  rfl
theorem if_t (h : t env st = .ok true s) : sIf t p q env st = p env s := by
  unfold sIf
  rw [h]
  rfl
theorem if_f (h : t env st = .ok false s) : sIf t p q env st = q env s := by
  unfold sIf
  rw [h]
  rfl
theorem ret_ok (h : m env st = .ok w s) : sRet m env st = .ok (.rt w) s := by
  unfold sRet
  rw [h]
  rfl
theorem or_f (h : t env st = .ok false s) : tOrM t u env st = u env s := by
  unfold tOrM
  rw [h]
  rfl
theorem or_t (h : t env st = .ok true s) : tOrM t u env st = .ok true s := by
  unfold tOrM
  rw [h]
  rfl
theorem and_t (h : t env st = .ok true s) : tAndM t u env st = u env s := by
  unfold tAndM
  rw [h]
  rfl
theorem and_f (h : t env st = .ok false s) : tAndM t u env st = .ok false s := by
  unfold tAndM
  rw [h]
  rfl
theorem not_ok (h : t env st = .ok b s) : tNotM t env st = .ok (!b) s := by
  unfold tNotM
  rw [h]
  rfl
theorem tru_bl (h : m env st = .ok (.bl b) s) : tTru m env st = .ok b s := by
  unfold tTru
  rw [h]
  rfl
theorem tBl_ok (h : m env st = .ok (.bl b) s) : tBl m env st = .ok b s := by
  unfold tBl
  rw [h]
  rfl
theorem bin_ok (h1 : ma env st = .ok x s) (h2 : mb env s = .ok y s') : eBin g ma mb env st = g x y s' := by
  unfold eBin
  rw [h1]
  show R.bind (mb env s) _ = _
  rw [h2]
  rfl
theorem call1 (h : m env st = .ok x s) : eCall f (aCons m aNil) env st = f [x] s := by
  unfold eCall aCons
  rw [h]
  rfl
theorem call2 (h : ma env st = .ok x s) (h2 : mb env s = .ok y s') : eCall f (aCons ma (aCons mb aNil)) env st = f [x, y] s' := by
  simp only [eCall, aCons, aNil, R.bind, h, h2]
theorem tup2 (h : ma env st = .ok x s) (h2 : mb env s = .ok y s') : eTup (aCons ma (aCons mb aNil)) env st = .ok (.tup [x, y]) s' := by
  simp only [eTup, aCons, aNil, R.bind, h, h2]
  rfl
theorem evar_ok (h : env[i]? = some (some w)) : evar i env st = .ok w st := by
  unfold evar
  rw [h]
/-- two values of the same data -/
theorem eq_same {d : PyData} (h1 : dat st deep x = some d) (h2 : dat st deep y = some d) : fEq false x y st = .ok (.bl true) st := by
  unfold fEq
  rw [h1, h2]
  show R.ok (W.bl (xor false (PyData.eqv d d))) st = _
  rw [PySem.SeqAt.eqv_refl d (dat_sh _ h1).1]
  rfl
theorem ne_same {d : PyData} (h1 : dat st deep x = some d) (h2 : dat st deep y = some d) : fEq true x y st = .ok (.bl false) st := by
  unfold fEq
  rw [h1, h2]
  show R.ok (W.bl (xor true (PyData.eqv d d))) st = _
  rw [PySem.SeqAt.eqv_refl d (dat_sh _ h1).1]
  rfl
theorem bin_to {s3 : Sto} {z : W} (h1 : ma env st = .ok x s) (h2 : mb env s = .ok y s') (h3 : g x y s' = .ok z s3) : eBin g ma mb env st = .ok z s3 := (bin_ok h1 h2).trans h3
theorem test_nx (h1 : lowE env vs = true) (h2 : t (pickE env vs) [] = .ok false s) : sIf (frT vs t) p sNil env st = .ok (.nx env) st := (if_f (frT_ok h1 h2)).trans rfl
/-! ### for over a written list -/
theorem for_fix {Inv : Nat → Env' → Sto → Prop} {i : Nat} {body : SX} : ∀ (xs : List W) (k : Nat) (ys : List W) (env : Env') (st : Sto), ys.length = k → Inv k env st →
    (∀ (j : Nat) (x : W) (env : Env') (st : Sto), (ys ++ xs)[j]? = some x → k ≤ j → Inv j env st → ∃ env' st', body (env.set i (some x)) st = .ok (.nx env') st' ∧ Inv (j + 1) env' st') →
    ∃ env' st', forM (.fix (ys ++ xs)) (.nm i) body (xs.length + 1) k env st = .ok (.nx env') st' ∧ Inv (k + xs.length) env' st'
  | [], k, ys, env, st, hk, h, hb => by
    refine ⟨env, st, ?_, h⟩
    unfold forM Src.at
    simp [hk]
  | x :: xs, k, ys, env, st, hk, h, hb => by
    have hx : (ys ++ x :: xs)[k]? = some x := by
      rw [List.getElem?_append_right (by omega), hk]
      simp
    obtain ⟨e1, s1, h1, h2⟩ := hb k x env st hx (Nat.le_refl _) h
    have ea : ys ++ x :: xs = (ys ++ [x]) ++ xs := by simp
    obtain ⟨e2, s2, h3, h4⟩ := for_fix xs (k + 1) (ys ++ [x]) e1 s1 (by simp [hk]) h2 (by
      intro j y env st hj hk2 hI
      rw [← ea] at hj
      exact hb j y env st hj (by omega) hI)
    refine ⟨e2, s2, ?_, by
      have : k + 1 + xs.length = k + (x :: xs).length := by simp; omega
      rw [← this]; exact h4⟩
    rw [ea]
    rw [← ea]
    show forM (.fix (ys ++ x :: xs)) (.nm i) body (xs.length + 1 + 1) k env st = _
    unfold forM
    simp only [Src.at, hx, Pat.set, h1]
    rw [ea]
    exact h3
theorem for_all {Inv : Nat → Env' → Sto → Prop} {i : Nat} {body : SX} {xs : List W} {env : Env'} {st : Sto} (h : Inv 0 env st)
    (hb : ∀ (j : Nat) (x : W) (env : Env') (st : Sto), xs[j]? = some x → Inv j env st → ∃ env' st', body (env.set i (some x)) st = .ok (.nx env') st' ∧ Inv (j + 1) env' st') :
    ∃ env' st', forM (.fix xs) (.nm i) body (xs.length + 1) 0 env st = .ok (.nx env') st' ∧ Inv xs.length env' st' := by
  obtain ⟨e, s, h1, h2⟩ := for_fix (Inv := Inv) (i := i) (body := body) xs 0 [] env st rfl h (fun j x env st hj _ hI => hb j x env st (by simpa using hj) hI)
  refine ⟨e, s, by simpa using h1, ?_⟩
  have : 0 + xs.length = xs.length := Nat.zero_add _
  rw [← this]
  exact h2
theorem rngW_len (lo c : Int) : ∀ n : Nat, (rngW lo c n).length = n
  | 0 => rfl
  | n + 1 => by simp [rngW, rngW_len (lo + c) c n]
end
/-! ### a comprehension over a written list -/
theorem comp_fix {Inv : Nat → Sto → Prop} {P : W → Prop} {xs : List W} {i : Nat} {m : EX} {env : Env'} (hb : ∀ j x st, xs[j]? = some x → Inv j st → ∃ y st', m (env.set i (some x)) st = .ok y st' ∧ P y ∧ Inv (j + 1) st') :
    ∀ (n k : Nat) (st : Sto), k + n = xs.length → Inv k st → ∃ ys st', compM (.fix xs) (.nm i) tYesM m env (n + 1) k st = .ok ys st' ∧ ys.length = n ∧ (∀ y ∈ ys, P y) ∧ Inv xs.length st'
  | 0, k, st, hk, h => by
    refine ⟨[], st, ?_, rfl, (fun y hy => by cases hy), (by rw [← hk]; exact h)⟩
    unfold compM
    simp only [Src.at, List.getElem?_eq_none (show xs.length ≤ k by omega)]
  | n + 1, k, st, hk, h => by
    have hx : xs[k]? = some xs[k] := List.getElem?_eq_getElem (by omega)
    obtain ⟨y, s1, h1, h2, h3⟩ := hb k _ st hx h
    obtain ⟨ys, s2, h4, h5, h6, h7⟩ := comp_fix hb n (k + 1) s1 (by omega) h3
    refine ⟨y :: ys, s2, ?_, by simp [h5], fun z hz => ?_, h7⟩
    · unfold compM
      simp only [Src.at, hx, Pat.set, tYesM, h1, h4]
    · rcases List.mem_cons.mp hz with rfl | hz
      · exact h2
      · exact h6 z hz
/-! ### sizes -/
theorem small63_of {i : Int} (h : i.natAbs < 9223372036854775808) : small63 i = true := by
  unfold small63
  rw [Nat.blt_eq]
  exact h
theorem mulC_l {i j : Int} (h : small63 i = true) : mulC i j = true := by
  unfold mulC
  rw [h]
  rfl
theorem mulC_r {i j : Int} (h : small63 j = true) : mulC i j = true := by
  unfold mulC
  rw [h]
  cases small63 i <;> rfl
theorem mulC_b {i j : Int} (h : bigOk i = true) (h2 : bigOk j = true) : mulC i j = true := by
  unfold mulC
  rw [h, h2]
  cases small63 i <;> cases small63 j <;> rfl
theorem fmod_rng {x b : Int} (hb : 0 < b) : 0 ≤ x.fmod b ∧ x.fmod b < b := by
  rw [Int.fmod_eq_emod_of_nonneg x (by omega)]
  exact ⟨Int.emod_nonneg x (by omega), Int.emod_lt_of_pos x hb⟩
end Rx

/-! RxM: sorted of data (whole numbers, texts, tuples of them at any depth), tuples of a range with a step. -/
namespace Rx
open PySem PySem.Spec PyProof.Rows L2

/-! ### in order, by putting each in its place -/
section
variable {α β : Type}
def insB (lt : α → α → Bool) (x : α) : List α → List α
  | [] => [x]
  | y :: ys => cond (lt y x) (y :: insB lt x ys) (x :: y :: ys)
def sortB (lt : α → α → Bool) : List α → List α
  | [] => []
  | x :: xs => insB lt x (sortB lt xs)
theorem insB_map {lt : α → α → Bool} {ms : β → β → Bool} (f : α → β) (h : ∀ a b, lt a b = ms (f a) (f b)) (x : α) : ∀ ys, (insB lt x ys).map f = insB ms (f x) (ys.map f)
  | [] => rfl
  | y :: ys => by
    simp only [insB, List.map_cons]
    rw [← h y x]
    cases lt y x with
    | true => simp only [cond_true, List.map_cons]; rw [insB_map f h x ys]
    | false => rfl
theorem sortB_map {lt : α → α → Bool} {ms : β → β → Bool} (f : α → β) (h : ∀ a b, lt a b = ms (f a) (f b)) : ∀ ys, (sortB lt ys).map f = sortB ms (ys.map f)
  | [] => rfl
  | x :: ys => by
    show (insB lt x (sortB lt ys)).map f = insB ms (f x) (sortB ms (ys.map f))
    rw [insB_map f h, sortB_map f h ys]
theorem insB_mem {lt : α → α → Bool} {x z : α} : ∀ ys : List α, z ∈ insB lt x ys → z = x ∨ z ∈ ys
  | [], h => .inl (by simpa [insB] using h)
  | y :: ys, h => by
    unfold insB at h
    cases e : lt y x with
    | true =>
      rw [e] at h
      rcases List.mem_cons.mp h with rfl | h
      · exact .inr (by simp)
      · rcases insB_mem ys h with h | h
        · exact .inl h
        · exact .inr (List.mem_cons_of_mem _ h)
    | false =>
      rw [e] at h
      rcases List.mem_cons.mp h with rfl | h
      · exact .inl rfl
      · exact .inr h
end
section
variable {α : Type} {le : α → α → Bool} (T : PySem.W.TotalLe le)
include T
theorem insB_pw (x : α) : ∀ ys : List α, ys.Pairwise (fun a b => le a b = true) → (insB (fun a b => !le b a) x ys).Pairwise fun a b => le a b = true
  | [], _ => List.pairwise_singleton _ _
  | y :: ys, h => by
    obtain ⟨h1, h2⟩ := List.pairwise_cons.mp h
    unfold insB
    cases e : le x y with
    | true =>
      show List.Pairwise _ (x :: y :: ys)
      refine List.pairwise_cons.mpr ⟨fun z hz => ?_, h⟩
      rcases List.mem_cons.mp hz with rfl | hz
      · exact e
      · exact T.trans _ _ _ e (h1 z hz)
    | false =>
      show List.Pairwise _ (y :: insB _ x ys)
      refine List.pairwise_cons.mpr ⟨fun z hz => ?_, insB_pw x ys h2⟩
      rcases insB_mem ys hz with rfl | hz
      · rcases T.total y z with q | q
        · exact q
        · rw [e] at q; cases q
      · exact h1 z hz
theorem sortB_pw : ∀ ys : List α, (sortB (fun a b => !le b a) ys).Pairwise fun a b => le a b = true
  | [] => .nil
  | x :: ys => insB_pw T x _ (sortB_pw ys)
theorem insB_filter (c x : α) : ∀ ys : List α, (insB (fun a b => !le b a) x ys).filter (PySem.W.sameRank le c) = (x :: ys).filter (PySem.W.sameRank le c)
  | [] => rfl
  | y :: ys => by
    unfold insB
    cases e : le x y with
    | true => rfl
    | false =>
      show List.filter _ (y :: insB _ x ys) = _
      rw [List.filter_cons, insB_filter c x ys]
      simp only [List.filter_cons]
      cases hx : PySem.W.sameRank le c x with
      | false => simp
      | true =>
        cases hy : PySem.W.sameRank le c y with
        | false => simp
        | true =>
          unfold PySem.W.sameRank at hx hy
          rw [Bool.and_eq_true] at hx hy
          rw [T.trans x c y hx.2 hy.1] at e
          cases e
theorem sortB_filter (c : α) : ∀ ys : List α, (sortB (fun a b => !le b a) ys).filter (PySem.W.sameRank le c) = ys.filter (PySem.W.sameRank le c)
  | [] => rfl
  | x :: ys => by
    show (insB _ x (sortB _ ys)).filter _ = _
    rw [insB_filter T, List.filter_cons, List.filter_cons, sortB_filter c ys]
theorem sortB_merge (ys : List α) : ys.mergeSort le = sortB (fun a b => !le b a) ys := (PySem.W.sort_unique T (sortB_pw T ys) fun c => sortB_filter T c ys).symm
end

/-! ### one shape -/
mutual
def shp : PyData → PyData → Bool
  | .none, .none => true
  | .bool _, .bool _ => true
  | .int _, .int _ => true
  | .str _, .str _ => true
  | .tuple xs, .tuple ys => shps xs ys
  | _, _ => false
def shps : List PyData → List PyData → Bool
  | [], [] => true
  | x :: xs, y :: ys => shp x y && shps xs ys
  | _, _ => false
end
mutual
theorem shp_alike : ∀ a b c : PyData, shp a b = true → shp a c = true → PySem.W.alike b c = true
  | .none, .none, .none, _, _ => by rw [PySem.W.alike]
  | .bool _, .bool _, .bool _, _, _ => by rw [PySem.W.alike]
  | .int _, .int _, .int _, _, _ => by rw [PySem.W.alike]
  | .str _, .str _, .str _, _, _ => by rw [PySem.W.alike]
  | .tuple xs, .tuple ys, .tuple zs, h, k => by
    rw [PySem.W.alike]
    exact shps_alike xs ys zs (by rw [shp] at h; exact h) (by rw [shp] at k; exact k)
  | .none, .bool _, _, h, _ => by simp [shp] at h
  | .none, .int _, _, h, _ => by simp [shp] at h
  | .none, .str _, _, h, _ => by simp [shp] at h
  | .none, .list _, _, h, _ => by simp [shp] at h
  | .none, .tuple _, _, h, _ => by simp [shp] at h
  | .none, .dict _, _, h, _ => by simp [shp] at h
  | .none, .none, .bool _, _, h => by simp [shp] at h
  | .none, .none, .int _, _, h => by simp [shp] at h
  | .none, .none, .str _, _, h => by simp [shp] at h
  | .none, .none, .list _, _, h => by simp [shp] at h
  | .none, .none, .tuple _, _, h => by simp [shp] at h
  | .none, .none, .dict _, _, h => by simp [shp] at h
  | .bool _, .none, _, h, _ => by simp [shp] at h
  | .bool _, .int _, _, h, _ => by simp [shp] at h
  | .bool _, .str _, _, h, _ => by simp [shp] at h
  | .bool _, .list _, _, h, _ => by simp [shp] at h
  | .bool _, .tuple _, _, h, _ => by simp [shp] at h
  | .bool _, .dict _, _, h, _ => by simp [shp] at h
  | .bool _, .bool _, .none, _, h => by simp [shp] at h
  | .bool _, .bool _, .int _, _, h => by simp [shp] at h
  | .bool _, .bool _, .str _, _, h => by simp [shp] at h
  | .bool _, .bool _, .list _, _, h => by simp [shp] at h
  | .bool _, .bool _, .tuple _, _, h => by simp [shp] at h
  | .bool _, .bool _, .dict _, _, h => by simp [shp] at h
  | .int _, .none, _, h, _ => by simp [shp] at h
  | .int _, .bool _, _, h, _ => by simp [shp] at h
  | .int _, .str _, _, h, _ => by simp [shp] at h
  | .int _, .list _, _, h, _ => by simp [shp] at h
  | .int _, .tuple _, _, h, _ => by simp [shp] at h
  | .int _, .dict _, _, h, _ => by simp [shp] at h
  | .int _, .int _, .none, _, h => by simp [shp] at h
  | .int _, .int _, .bool _, _, h => by simp [shp] at h
  | .int _, .int _, .str _, _, h => by simp [shp] at h
  | .int _, .int _, .list _, _, h => by simp [shp] at h
  | .int _, .int _, .tuple _, _, h => by simp [shp] at h
  | .int _, .int _, .dict _, _, h => by simp [shp] at h
  | .str _, .none, _, h, _ => by simp [shp] at h
  | .str _, .bool _, _, h, _ => by simp [shp] at h
  | .str _, .int _, _, h, _ => by simp [shp] at h
  | .str _, .list _, _, h, _ => by simp [shp] at h
  | .str _, .tuple _, _, h, _ => by simp [shp] at h
  | .str _, .dict _, _, h, _ => by simp [shp] at h
  | .str _, .str _, .none, _, h => by simp [shp] at h
  | .str _, .str _, .bool _, _, h => by simp [shp] at h
  | .str _, .str _, .int _, _, h => by simp [shp] at h
  | .str _, .str _, .list _, _, h => by simp [shp] at h
  | .str _, .str _, .tuple _, _, h => by simp [shp] at h
  | .str _, .str _, .dict _, _, h => by simp [shp] at h
  | .tuple _, .none, _, h, _ => by simp [shp] at h
  | .tuple _, .bool _, _, h, _ => by simp [shp] at h
  | .tuple _, .int _, _, h, _ => by simp [shp] at h
  | .tuple _, .str _, _, h, _ => by simp [shp] at h
  | .tuple _, .list _, _, h, _ => by simp [shp] at h
  | .tuple _, .dict _, _, h, _ => by simp [shp] at h
  | .tuple _, .tuple _, .none, _, h => by simp [shp] at h
  | .tuple _, .tuple _, .bool _, _, h => by simp [shp] at h
  | .tuple _, .tuple _, .int _, _, h => by simp [shp] at h
  | .tuple _, .tuple _, .str _, _, h => by simp [shp] at h
  | .tuple _, .tuple _, .list _, _, h => by simp [shp] at h
  | .tuple _, .tuple _, .dict _, _, h => by simp [shp] at h
  | .list _, _, _, h, _ => by simp [shp] at h
  | .dict _, _, _, h, _ => by simp [shp] at h
theorem shps_alike : ∀ a b c : List PyData, shps a b = true → shps a c = true → PySem.W.alikeAll b c = true
  | [], [], [], _, _ => by rw [PySem.W.alikeAll]
  | x :: xs, y :: ys, z :: zs, h, k => by
    rw [shps, Bool.and_eq_true] at h k
    rw [PySem.W.alikeAll, shp_alike x y z h.1 k.1, shps_alike xs ys zs h.2 k.2]
    rfl
  | [], _ :: _, _, h, _ => by simp [shps] at h
  | [], [], _ :: _, _, h => by simp [shps] at h
  | _ :: _, [], _, h, _ => by simp [shps] at h
  | _ :: _, _ :: _, [], _, h => by simp [shps] at h
end
def isT1 : PyData → Bool
  | .tuple (_ :: _) => true
  | _ => false
def noT : PyData → Bool
  | .none => false
  | .tuple _ => false
  | _ => true
def alk : List PyData → Bool
  | [] => true
  | d :: ds => (d :: ds).all (shp d) || (d :: ds).all fun x => (d :: ds).all (PySem.W.alike x)
def canSort (ds : List PyData) : Bool := alk ds && (ds.all isT1 || ds.all noT)
theorem alk_ok {ds : List PyData} (h : alk ds = true) : PySem.W.AllAlike ds := by
  intro a ha b hb
  cases ds with
  | nil => cases ha
  | cons d ds =>
    unfold alk at h
    rcases Bool.or_eq_true_iff.mp h with h | h
    · exact shp_alike d a b (List.all_eq_true.mp h a ha) (List.all_eq_true.mp h b hb)
    · exact List.all_eq_true.mp (List.all_eq_true.mp h a ha) b hb
theorem canSort_ok {ds : List PyData} (h : canSort ds = true) : PySem.W.AllAlike ds ∧ PySem.W.Sortable ds := by
  unfold canSort at h
  rw [Bool.and_eq_true] at h
  refine ⟨alk_ok h.1, ?_⟩
  rcases Bool.or_eq_true_iff.mp h.2 with h | h
  · refine .inl fun d hd => ?_
    have := List.all_eq_true.mp h d hd
    unfold isT1 at this
    split at this
    · exact ⟨_, _, rfl⟩
    · cases this
  · refine .inr fun d hd => ?_
    have := List.all_eq_true.mp h d hd
    constructor
    · rintro rfl
      cases this
    · rintro xs rfl
      cases this

/-! ### sorted -/
abbrev Tk := List (Int ⊕ List Nat)
def ltK (a b : Tk × W) : Bool := PyProof.Rows.lexLt PyProof.Rows.itemOrd a.1 b.1
def sortK (ds : List PyData) (ws : List W) : List W := (sortB ltK ((ds.map PySem.W.keyToks).zip ws)).map (·.2)
def gSorted (a : W) (st : Sto) : R W := match a with
  | .ls n => match st[n]? with
    | some (.lst xs) => match datAll (dat st deep) xs with
      | some ds => if canSort ds = true then .ok (.ls st.length) (st ++ [.lst (sortK ds xs)]) else .err
      | none => .err
    | none => .err
  | .tup xs => match datAll (dat st deep) xs with
    | some ds => if canSort ds = true then .ok (.ls st.length) (st ++ [.lst (sortK ds xs)]) else .err
    | none => .err
  | _ => .err

section
variable {X : Cx}
theorem each_three {K : PySem.W.Frag} {μ : Nat → Addr} {H : Hp} {L : Nat} {h : Heap} : ∀ {vs : List V} {us : List Value} {ws : List W} {ds : List PyData}, Vals vs us → Reps K μ L H vs ws → (∃ as, ReadsAll h us ds as) →
    ∃ bs : List ((V × W) × PyData), bs.map (·.1.1) = vs ∧ bs.map (·.1.2) = ws ∧ bs.map (·.2) = ds ∧ PySem.W.EachIs (fun u (b : (V × W) × PyData) => RelV b.1.1 u ∧ Rep K μ L H b.1.1 b.1.2) us bs ∧ PySem.W.EachIs (fun u (b : (V × W) × PyData) => ∃ as, Reads h u b.2 as) us bs
  | [], _, _, ds, .nil, .nil, ⟨_, r⟩ => by
    cases r
    exact ⟨[], rfl, rfl, rfl, .nil, .nil⟩
  | v :: vs, _, _, ds, .cons a b, .cons c d, ⟨_, r⟩ => by
    cases r with
    | cons r1 r2 =>
      obtain ⟨bs, e1, e2, e3, e4, e5⟩ := each_three b d ⟨_, r2⟩
      exact ⟨((v, _), _) :: bs, by simp [e1], by simp [e2], by simp [e3], .cons ⟨a, c⟩ e4, .cons ⟨_, r1⟩ e5⟩
theorem each_back {K : PySem.W.Frag} {μ : Nat → Addr} {H : Hp} {L : Nat} : ∀ {us : List Value} {bs : List ((V × W) × PyData)}, PySem.W.EachIs (fun u (b : (V × W) × PyData) => RelV b.1.1 u ∧ Rep K μ L H b.1.1 b.1.2) us bs → Vals (bs.map (·.1.1)) us ∧ Reps K μ L H (bs.map (·.1.1)) (bs.map (·.1.2))
  | [], _, .nil => ⟨.nil, .nil⟩
  | _ :: _, _, .cons a b => ⟨.cons a.1 (each_back b).1, .cons a.2 (each_back b).2⟩
theorem dat_dps {K : PySem.W.Frag} {μ : Nat → Addr} {H : Hp} {st : Sto} (S : Sim K μ st H) {n : Nat} : ∀ {vs : List V} {ws : List W} {ds : List PyData}, Reps K μ st.length H vs ws → datAll (dat st n) ws = some ds → DpAll K H vs ds
  | _, [], ds, r, h => by cases r; cases h; exact .nil
  | _, w :: ws, ds, r, h => by
    cases r with
    | cons r rs =>
      unfold datAll at h
      split at h
      · rename_i d ds' h1 h2
        cases h
        exact .cons (dat_dp S _ r h1) (dat_dps S rs h2)
      · cases h
theorem datAll_mem {f : W → Option PyData} : ∀ {ws : List W} {ds : List PyData}, datAll f ws = some ds → ∀ d ∈ ds, ∃ w, f w = some d
  | [], ds, h => by cases h; intro d hd; cases hd
  | w :: ws, ds, h => by
    unfold datAll at h
    split at h
    · rename_i d ds' h1 h2
      cases h
      intro x hx
      rcases List.mem_cons.mp hx with rfl | hx
      · exact ⟨w, h1⟩
      · exact datAll_mem h2 x hx
    · cases h
theorem zip_of {α β γ : Type} (f : α → β) (g : α → γ) : ∀ l : List α, (l.map f).zip (l.map g) = l.map fun x => (f x, g x)
  | [] => rfl
  | x :: l => by simp [zip_of f g l]
/-- what the sort leaves, in words of the mirror -/
theorem sortK_eq (bs : List ((V × W) × PyData)) : (sortB (fun a b => !PySem.W.dataLe false (Prod.snd : (V × W) × PyData → PyData) b a) bs).map (·.1.2) = sortK (bs.map (·.2)) (bs.map (·.1.2)) := by
  unfold sortK
  rw [List.map_map, zip_of, ← sortB_map (lt := fun a b => !PySem.W.dataLe false (Prod.snd : (V × W) × PyData → PyData) b a) (fun x : (V × W) × PyData => ((PySem.W.keyToks ∘ fun x => x.2) x, x.1.2)) (fun a b => ?_), List.map_map]
  · rfl
  · show (!(!PyProof.Rows.lexLt PyProof.Rows.itemOrd (PySem.W.keyToks a.2) (PySem.W.keyToks b.2))) = _
    rw [Bool.not_not]
    rfl
/-- sorted(t), t a tuple: its items in a new list, that sorted -/
theorem sorted_tupleD {prog : Program} {w : World} {A : Around} {E : Value → Shared → Prop} {s : Shared} {β : Type} {R : Value → β → Prop} {bs : List β} {vs : List Value} {enc : β → PyData} {l : Addr} {Q : Value → Shared → Prop}
    (hl : s.heap.IsTuple l vs.toArray) (e : PySem.W.EachIs R vs bs) (er : PySem.W.EachIs (fun v b => ∃ as, Reads s.heap v (enc b) as) vs bs) (hal : PySem.W.AllAlike (bs.map enc)) (hk : PySem.W.Sortable (bs.map enc)) (hL : bs.length ≤ sizeLine)
    (hu : ∀ b, b ∈ bs → A.units + 2 + (enc b).depth < cLine)
    (h : ∀ h1 : Heap, (∀ b o, s.heap.get? b = some o → h1.get? b = some o) → ∀ (out : List Value) (h' : Heap) (c : Nat), out.length = bs.length → PySem.W.EachIs R out (bs.mergeSort (PySem.W.dataLe false enc)) → h'.get? h1.objs.size = some (seqObj "list" (List.toArray out) c) →
      (∀ b o, h1.get? b = some o → h'.get? b = some o) → Q (.ref h1.objs.size) { s with heap := h' }) :
    wpAny (model prog w) A (call (.builtin "sorted") [.ref l]) Q E s := by
  obtain ⟨o, ho, hc, n, hd⟩ := hl
  have hvl : vs.length ≤ sizeLine := by rw [e.length]; exact hL
  refine call_function_entry_kw kind_sorted plain_sorted entry_sorted (args_sorted1 _) ?_
  unfold Builtin.«sorted»
  refine wpAny_bind (m := checkCount "sorted" 1 1 _) (wpAny_pure ?_)
  refine wpAny_bind (wpAny_collect_seq l (.inr rfl) ho hc hd (fun h1 hk1 => ?_) (by rw [List.size_toArray]; exact hvl))
  refine wpAny_bind (wpAny_newList ?_ (by simpa using hvl))
  have hat : (h1.push { cls := .type "list", data := .seq vs.toArray.toList.toArray }).get? h1.objs.size = some (seqObj "list" vs.toArray 0) := Heap.get?_push_size _ rfl
  have keep : ∀ b o, s.heap.get? b = some o → (h1.push { cls := .type "list", data := .seq vs.toArray.toList.toArray }).get? b = some o := fun b o e => Heap.get?_push_of_some _ (hk1 b o e)
  refine wpAny_bind (wpAny_holding (PySem.W.list_sort_data (s := { s with heap := h1.push { cls := .type "list", data := .seq vs.toArray.toList.toArray } }) hat e (er.mono fun v b ⟨as, r⟩ => ⟨as, PyProof.Rows.Reads.keeps keep r, fun hm => ?_⟩) hal hk hL (fun b hb => hu b hb) fun (out : List Value) ho' eo => ?_))
  · obtain ⟨c, hc'⟩ := sortedHeap_at (out := List.toArray out) hat
    refine wpAny_pure ⟨_, rfl, h h1 hk1 out _ c ho' eo hc' fun b o q => ?_⟩
    have hlt := Heap.lt_size q
    rw [sortedHeap_old (Nat.ne_of_lt hlt) (by rw [Heap.size_push]; exact Nat.lt_succ_of_lt hlt)]
    exact Heap.get?_push_of_some _ q
  · obtain ⟨ob, hob⟩ := PyProof.On.reads_mem_get r _ hm
    exact absurd (Heap.lt_size (hk1 _ _ hob)) (Nat.lt_irrefl _)
theorem c_sorted {N : List Str} {sc : Scope} (hX : In X N sc) : CallR X (.builtin "sorted") (lC X.K (f1 gSorted)) := by
  intro pins s σ H vs us Q I r h
  obtain ⟨v, rfl, μ, st, a, w, st', S, ra, e, k⟩ := f1_run h
  unfold gSorted at e
  split at e
  · rename_i n
    split at e
    · rename_i xs e1
      split at e
      · rename_i ds e2
        split at e
        · rename_i ok
          cases e
          obtain ⟨hal, hs⟩ := canSort_ok ok
          obtain ⟨vs', hv, rv⟩ := S.lstAt e1
          cases ra
          obtain ⟨u, rfl, ru⟩ := vals1 r
          obtain rfl : u = Value.ref (μ n) := ru
          obtain ⟨its, rr, hl, hz⟩ := I.list (.inl (.inl hv))
          have hd := Dp.readsAll I ds vs' its (dat_dps S rv e2) rr
          obtain ⟨bs, b1, b2, b3, b4, b5⟩ := each_three (L := st.length) (μ := μ) (K := X.K) (H := H) rr rv hd
          subst b1 b2 b3
          have hu : ∀ b ∈ bs, X.A.units + 2 + b.2.depth < cLine := fun b hb => by
            obtain ⟨w, hw⟩ := datAll_mem e2 b.2 (List.mem_map.mpr ⟨b, hb, rfl⟩)
            have h1 := (dat_sh _ hw).2
            have h2 := hX.units
            have h3 : deep = 12 := rfl
            omega
          refine PySem.W.sorted_data (enc := Prod.snd) hl.isList b4 b5 hal hs (by simpa using hz) hu fun out hlen eo => ?_
          obtain ⟨c, hc⟩ := sortedAll_at s.heap its out.toArray
          have T : PySem.W.TotalLe (PySem.W.dataLe false (Prod.snd : (V × W) × PyData → PyData)) := PySem.W.sortLe_total _ _ _
          rw [sortB_merge T] at eo
          obtain ⟨q1, q2⟩ := each_back eo
          rw [sortK_eq] at q2
          have hn : H (s.heap.objs.size + 1) = none := I.hok.fresh (Nat.le_succ _)
          have new : ObjOk X.prog X.w (upd H (s.heap.objs.size + 1) (.lst ((sortB (fun a b => !PySem.W.dataLe false (Prod.snd : (V × W) × PyData → PyData) b a) bs).map (·.1.1)))) (sortedAll s.heap its out.toArray) (s.heap.objs.size + 1) (.lst ((sortB (fun a b => !PySem.W.dataLe false (Prod.snd : (V × W) × PyData → PyData) b a) bs).map (·.1.1))) :=
            ⟨by rw [q1.length, hlen, ← b4.length, ← rr.length]; exact hz, out, c, q1, hc⟩
          exact ⟨.ref (s.heap.objs.size + 1), _, I.laid (t' := s.toks) (fun _ _ => sortedAll_old) (Nat.le_succ _) new, rfl, k.new S q2 hn⟩
        · cases e
      · cases e
    · cases e
  · rename_i xs
    split at e
    · rename_i ds e2
      split at e
      · rename_i ok
        cases e
        obtain ⟨hal, hs⟩ := canSort_ok ok
        obtain ⟨p, vs', rfl, t, rv⟩ := rep_tup ra
        obtain ⟨u, rfl, ru⟩ := vals1 r
        obtain rfl : u = Value.ref p := ru
        obtain ⟨its, rr, hl, hz⟩ := I.tuple t.sq
        have hd := Dp.readsAll I ds vs' its (dat_dps S rv e2) rr
        obtain ⟨bs, b1, b2, b3, b4, b5⟩ := each_three (L := st.length) (μ := μ) (K := X.K) (H := H) rr rv hd
        subst b1 b2 b3
        have hu : ∀ b ∈ bs, X.A.units + 2 + b.2.depth < cLine := fun b hb => by
          obtain ⟨w, hw⟩ := datAll_mem e2 b.2 (List.mem_map.mpr ⟨b, hb, rfl⟩)
          have h1 := (dat_sh _ hw).2
          have h2 := hX.units
          have h3 : deep = 12 := rfl
          omega
        refine sorted_tupleD (enc := Prod.snd) hl b4 b5 hal hs (by simpa using hz) hu fun h1 hk1 out h' c hlen eo hc hk2 => ?_
        have T : PySem.W.TotalLe (PySem.W.dataLe false (Prod.snd : (V × W) × PyData → PyData)) := PySem.W.sortLe_total _ _ _
        rw [sortB_merge T] at eo
        obtain ⟨q1, q2⟩ := each_back eo
        rw [sortK_eq] at q2
        have I1 : Inv X pins σ H { s with heap := h1 } := I.kept (t' := s.toks) hk1
        have hn : H h1.objs.size = none := I1.hok.fresh (Nat.le_refl _)
        have new : ObjOk X.prog X.w (upd H h1.objs.size (.lst ((sortB (fun a b => !PySem.W.dataLe false (Prod.snd : (V × W) × PyData → PyData) b a) bs).map (·.1.1)))) h' h1.objs.size (.lst ((sortB (fun a b => !PySem.W.dataLe false (Prod.snd : (V × W) × PyData → PyData) b a) bs).map (·.1.1))) :=
          ⟨by rw [q1.length, hlen, ← b4.length, ← rr.length]; exact hz, out, c, q1, hc⟩
        exact ⟨.ref h1.objs.size, _, I1.laid (t' := s.toks) hk2 (Nat.le_refl _) new, rfl, k.new S q2 hn⟩
      · cases e
    · cases e
  · cases e
end

/-! ### tuple(range(i, j, -1)) -/
section
variable {X : Cx} {a b c : Expr} {N : List Str} {sc : Scope} {p p2 pos pos2 : Pos}
def rgVd (i : Int) (n : Nat) : List V := (List.range n).map fun m => V.int (i + (m : Nat) * (-1))
def tTupRg3 (ta : TA) : TE := fun σ H Q => ta σ H fun vs H1 => ∃ i j : Int, ∃ n : Nat, vs = [.int i, .int j, .int (-1)] ∧ RgC i j (-1) n ∧ n ≤ 1000000 ∧ ∀ q, H1 q = none → Q (.ref q) (upd H1 q (.tup (rgVd i n)))
theorem pe_tupRg3 {ta : TA} (hc : X.calm = true) (hg : Gl X "tuple") (hm : X.mg "tuple" = none) (hg2 : Gl X "range") (hm2 : X.mg "range" = none) (ha : PA X [a, b, c] ta)
    (hs : starEach [a, b, c] X.env = (false, eval a X.env) :: starEach [b, c] X.env) (hpl : (backTo pos2 (starEach [b, c] X.env)).any (·.1) = false)
    (na : starEach [.Call (.Name "range" p2) [a, b, c] [] pos2] X.env = (false, eval (.Call (.Name "range" p2) [a, b, c] [] pos2) X.env) :: starEach [] X.env) :
    PE X (.Call (.Name "tuple" p) [.Call (.Name "range" p2) [a, b, c] [] pos2] [] pos) (tTupRg3 ta) := by
  refine ⟨fun pins s σ H Q I h => ?_⟩
  refine Call_ (ld_blt I hg hm boot_tuple (PyProof.Rows.callWith_type1 (args_cons ?_ na) na))
  refine Call_ (ld_blt I hg2 hm2 boot_range (PyProof.Rows.callWith_type1 (thn (ha.run pos2 pins s σ H _ I h) fun us s1 ⟨vs, H1, I1, r1, q1⟩ => ?_) hs hpl))
  obtain ⟨i, j, n, e, ⟨c0, c1, c2, c3⟩, hn, q⟩ := q1
  subst e
  cases r1 with
  | cons r rr =>
    cases rr with
    | cons r' rr =>
      cases rr with
      | cons r'' rr =>
        cases rr
        obtain ⟨t, rfl⟩ := r
        obtain ⟨t', rfl⟩ := r'
        obtain ⟨t'', rfl⟩ := r''
        refine call_range_3 c0 ?_ (.inl (PyProof.noPylong_small c1))
        refine args_nil ?_
        have I2 : Inv X pins σ H1 { s1 with heap := s1.heap.push { cls := .type "range", data := .fields #[.int i t, .int j t', .int (-1) t''] } } := I1.kept (t' := s1.toks) fun b o e => Heap.get?_push_of_some _ e
        refine call_tuple_range (n := n) (I2.ok.hd hc) (IsRange.new ..) c2 c3 (by omega) fun h' tk acc hk hi => ?_
        have I3 : Inv X pins σ H1 { s1 with heap := h', toks := tk } := I2.kept hk
        have hv : Vals (rgVd i n) acc.toList := by
          have e : acc.toList.length = n := by rw [Array.length_toList]; exact hi.1
          unfold rgVd
          rw [← e]
          refine vals_of_get acc.toList _ fun j u hj => ?_
          obtain ⟨t, rfl⟩ := hi.2 j u (by rw [← hj, Array.getElem?_toList])
          exact ⟨t, rfl⟩
        refine ⟨.ref h'.objs.size, upd H1 h'.objs.size (.tup (rgVd i n)), I3.laid (t' := tk) (fun c o e => Heap.get?_push_of_some _ e) (Nat.le_refl _) (show ObjOk X.prog X.w _ _ _ (.tup (rgVd i n)) from ⟨?_, acc.toList, hv, ?_⟩), rfl, q _ (I3.hok.fresh (Nat.le_refl _))⟩
        · unfold rgVd
          rw [List.length_map, List.length_range, sizeLine_eq]
          omega
        · rw [Array.toArray_toList]
          exact IsTup.new _ _
def eTupRg3 (n : AX) : EX := fun env st => (n env st).bind fun ws s1 => match ws with
  | [.int i, .int j, .int (-1)] => if rngOk i = true ∧ rngOk j = true ∧ (i - j).toNat ≤ 1000000 then .ok (.tup (rngW i (-1) (i - j).toNat)) s1 else .err
  | _ => .err
theorem rgVd_eq : ∀ (n : Nat) (a : Int), rgVd a n = (rngW a (-1) n).map fun w => match w with | .int i => V.int i | _ => V.non := by
  intro n
  induction n with
  | zero => intro a; rfl
  | succ n ih =>
    intro a
    unfold rgVd
    rw [List.range_succ_eq_map, List.map_cons, List.map_map]
    show _ = V.int a :: (rngW (a + -1) (-1) n).map _
    rw [← ih (a + -1)]
    unfold rgVd
    congr 1
    · simp
    · apply List.map_congr_left
      intro i _
      show V.int (a + ((i + 1 : Nat) : Int) * -1) = V.int (a + -1 + (i : Int) * -1)
      congr 1
      push_cast
      omega
theorem re_tupleRg3 (hX : In X N sc) {m n o : EX} (hg : glB sc "tuple" = true) (hg2 : glB sc "range" = true) (hm : X.mg "tuple" = none) (hm2 : X.mg "range" = none) (ha : RE X a m) (hb : RE X b n) (hc : RE X c o)
    (na : starEach [a, b, c] X.env = (false, eval a X.env) :: starEach [b, c] X.env := by rfl) (nb : starEach [.Call (.Name "range" p2) [a, b, c] [] pos2] X.env = (false, eval (.Call (.Name "range" p2) [a, b, c] [] pos2) X.env) :: starEach [] X.env := by rfl)
    (hp : (backTo pos2 (starEach [b, c] X.env)).any (·.1) = false := by rfl) (hs : Pl a := by exact fun _ _ => rfl) (hs2 : Pl b := by exact fun _ _ => rfl) (hs3 : Pl c := by exact fun _ _ => rfl) :
    RE X (.Call (.Name "tuple" p) [.Call (.Name "range" p2) [a, b, c] [] pos2] [] pos) (eTupRg3 (aCons m (aCons n (aCons o aNil)))) :=
  pe_imp (pe_tupRg3 hX.calm (hX.gl hg) hm (hX.gl hg2) hm2 (ra_cons ha (ra_cons hb (ra_cons hc ra_nil hs3) hs2) hs) na hp nb) fun σ H Q ⟨μ, env, st, w, st', S, E, h, k⟩ => by
    obtain ⟨ws, s1, h1, h2⟩ := R.bind_ok h
    obtain ⟨w, u, z, rfl⟩ := cons3 h1
    refine ⟨μ, env, st, _, s1, S, E, h1, fun μ1 H1 vs N1 S1 r1 => ?_⟩
    cases w with
    | int i =>
      cases u with
      | int j =>
        cases z with
        | int c0 =>
          have := args3 r1; subst this
          split at h2
          · rename_i i' j' heq
            cases heq
            split at h2
            · rename_i hj
              cases h2
              obtain ⟨q1, q2⟩ := rngOk_ok hj.1
              obtain ⟨q3, q4⟩ := rngOk_ok hj.2.1
              exact ⟨i, j, _, rfl, RgC.neg q1 q2 q3 q4, hj.2.2, fun q hq => (k.mono N1).tup S1 (by rw [rgVd_eq]; exact reps_rng _ _ _) hq⟩
            · cases h2
          · cases h2
        | _ => cases h2
      | _ => cases h2
    | _ => cases h2
end
end Rx

set_option maxHeartbeats 1000000
/-! RxZ: zip of any number of tuples. -/
namespace Rx
open PySem PySem.Spec PyProof.Rows L2

section
variable {prog : Program} {w : World} {A : Around} {E : Value → Shared → Prop} {s : Shared}
theorem wpAny_alive {a : Addr} {Q : Option Obj → Shared → Prop} (h : Q (s.heap.get? a) s) : wpAny (model prog w) A (loadIfAlive a) Q E s := fun Γ p hΓ => by
  unfold loadIfAlive
  rw [Sem.wp_loadIfAlive]
  exact h
theorem wpAny_each {α β : Type} (f : α → β → Sem (ForInStep β)) (Iv : Nat → β → Shared → Prop) : ∀ (l : List α) (j : Nat) (b : β) (s : Shared) {Q : β → Shared → Prop},
    (∀ (i : Nat) (x : α) (b : β) (s : Shared), l[i]? = some x → Iv (j + i) b s → wpAny (model prog w) A (f x b) (fun r s' => ∃ b', r = .yield b' ∧ Iv (j + i + 1) b' s') E s) →
    Iv j b s → (∀ b s', Iv (j + l.length) b s' → Q b s') → wpAny (model prog w) A (forIn l b f) Q E s
  | [], j, b, s, Q, _, h, q => by
    rw [List.forIn_nil]
    exact wpAny_pure (q b s h)
  | x :: l, j, b, s, Q, st, h, q => by
    rw [List.forIn_cons]
    refine wpAny_bind (wpAny_mono (st 0 x b s rfl h) (fun r s' ⟨b', e, h'⟩ => ?_) fun _ _ e => e)
    subst e
    exact wpAny_each f Iv l (j + 1) b' s' (fun i y b s hi hb => by
      have := st (i + 1) y b s (by simpa using hi) (by rw [show j + (i + 1) = j + 1 + i by omega]; exact hb)
      rw [show j + (i + 1) + 1 = j + 1 + i + 1 by omega] at this
      exact this) h' (fun b s' hb => q b s' (by rw [List.length_cons, show j + (l.length + 1) = j + 1 + l.length by omega]; exact hb))

abbrev ZipN (h : Heap) (z TI TO : Addr) (f0 f1 : Value) : Prop :=
  h.get? z = some { cls := .type "zip", dict := none, data := .fields #[f0, f1, .bool false, .ref TI, .ref TO], slots := #[] }
abbrev TupN (h : Heap) (T : Addr) (vs : List Value) : Prop := h.get? T = some { cls := .type "tuple", data := .seq vs.toArray }
/-- the cells lie apart: its the iterators, ls what they go over -/
structure ZApart (z TI TO : Addr) (its ls : List Addr) : Prop where
  nd : its.Nodup
  len : its.length = ls.length
  TIz : TI ≠ z
  TOz : TO ≠ z
  TITO : TI ≠ TO
  iz : z ∉ its
  iTI : TI ∉ its
  iTO : TO ∉ its
  lz : z ∉ ls
  lTO : TO ∉ ls
  li : ∀ i ∈ its, i ∉ ls
def FOk (f0 : Value) : Prop := f0 = .none ∨ ∃ a : Int, f0 = .int a 0
/-- the iterators, each at its place -/
def ItsAt (h : Heap) (its ls : List Addr) (at_ : Nat → Nat) : Prop := ∀ (k : Nat) (it l : Addr), its[k]? = some it → ls[k]? = some l → h.IsTupleIter it l (at_ k)
/-- the items at place i -/
def RowAt (h : Heap) (ls : List Addr) (i : Nat) (xs : List Value) : Prop := xs.length = ls.length ∧ ∀ (k : Nat) (l : Addr) (x : Value), ls[k]? = some l → xs[k]? = some x → ∃ items, h.IsTuple l items ∧ items[i]? = some x
theorem ne_mem {α : Type} {a b : α} {l : List α} (h : a ∉ l) (m : b ∈ l) : b ≠ a := fun e => h (e ▸ m)
theorem nd_get {α : Type} : ∀ {l : List α}, l.Nodup → ∀ {i j : Nat} {a : α}, l[i]? = some a → l[j]? = some a → i = j
  | [], _, _, _, _, h, _ => by simp at h
  | x :: l, nd, i, j, a, h, k => by
    obtain ⟨n1, n2⟩ := List.nodup_cons.mp nd
    cases i with
    | zero =>
      cases j with
      | zero => rfl
      | succ j =>
        simp at h k
        subst h
        exact absurd (List.mem_of_getElem? k) n1
    | succ i =>
      cases j with
      | zero =>
        simp at h k
        subst k
        exact absurd (List.mem_of_getElem? h) n1
      | succ j =>
        simp at h k
        rw [nd_get n2 h k]
theorem take_set {α : Type} (xs olds : List α) (j : Nat) (x : α) (hx : xs[j]? = some x) (hl : olds.length = xs.length) : (xs.take j ++ olds.drop j).set j x = xs.take (j + 1) ++ olds.drop (j + 1) := by
  have hj : j < xs.length := (List.getElem?_eq_some_iff.mp hx).1
  have h1 : (xs.take j).length = j := by rw [List.length_take]; omega
  rw [List.set_append_right _ _ (by omega), h1, Nat.sub_self, List.take_succ, hx]
  have h2 : olds.drop j = olds[j] :: olds.drop (j + 1) := List.drop_eq_getElem_cons (by omega)
  rw [h2, List.set_cons_zero]
  simp
section
variable {z TI TO : Addr} {its ls : List Addr} {f0 f1 : Value} {olds xs : List Value} {i : Nat}
/-- the loop that draws into the tuple of its own -/
def Iv1 (s : Shared) (z TI TO : Addr) (its ls : List Addr) (f1 : Value) (olds xs : List Value) (i : Nat) (j : Nat) (b : Option Fin × Unit) (st : Shared) : Prop :=
  b = (none, ()) ∧ ∃ h, st = { s with heap := h } ∧ h.objs.size = s.heap.objs.size ∧ ZipN h z TI TO .ellipsis f1 ∧ TupN h TO (xs.take j ++ olds.drop j) ∧ ItsAt h its ls (fun k => if k < j then i + 1 else i) ∧
    ∀ c o, c ≠ z → c ≠ TO → c ∉ its → s.heap.get? c = some o → h.get? c = some o
def Iv2 (s : Shared) (z TI TO : Addr) (its ls : List Addr) (f0 f1 : Value) (olds xs : List Value) (i : Nat) (j : Nat) (b : Option Fin × Array Value) (st : Shared) : Prop :=
  b = (none, (xs.take j).toArray) ∧ ∃ h, st = { s with heap := h } ∧ h.objs.size = s.heap.objs.size ∧ ZipN h z TI TO f0 f1 ∧ TupN h TO olds ∧ ItsAt h its ls (fun k => if k < j then i + 1 else i) ∧
    ∀ c o, c ≠ z → c ∉ its → s.heap.get? c = some o → h.get? c = some o
theorem ItsAt.step {h h' : Heap} (D : ZApart z TI TO its ls) {j : Nat} {it l : Addr} (hi : its[j]? = some it) (hl : ls[j]? = some l) (H : ItsAt h its ls fun k => if k < j then i + 1 else i)
    (hn : h'.IsTupleIter it l (i + 1)) (k : ∀ c o, c ∈ its → c ≠ it → h.get? c = some o → h'.get? c = some o) : ItsAt h' its ls fun k => if k < j + 1 then i + 1 else i := fun m it' l' a b => by
  by_cases e : m = j
  · subst e
    rw [hi] at a
    rw [hl] at b
    cases a
    cases b
    simpa using hn
  · have hne : it' ≠ it := fun q => e (nd_get D.nd a (q ▸ hi))
    have := H m it' l' a b
    have e2 : (if m < j + 1 then i + 1 else i) = if m < j then i + 1 else i := by
      by_cases q : m < j
      · rw [if_pos q, if_pos (by omega)]
      · rw [if_neg q, if_neg (by omega)]
    simp only [e2]
    exact this.at fun o q => k it' o (List.mem_of_getElem? a) hne q
theorem zipN_free (hf : FOk f0) (hf1 : f1 = .bool false ∨ f1 = .bool true) (hz : ZipN s.heap z TI TO f0 f1) :
    wpAny (model prog w) A (Builtin.SmallTypes.ownedTupleIsFree (.ref z)) (fun b s' => (b = true ∧ s = s') ∨ (b = false ∧ ∃ h g1, s' = { s with heap := h } ∧ (g1 = .bool false ∨ g1 = .bool true) ∧ ZipN h z TI TO f0 g1 ∧ Heap.SameBut z s.heap h)) E s := by
  unfold Builtin.SmallTypes.ownedTupleIsFree
  refine wpAny_bind (wpAny_field hz rfl (x := f0) rfl ?_)
  rcases hf with rfl | ⟨a, rfl⟩
  · exact wpAny_pure (.inl ⟨rfl, rfl⟩)
  · refine wpAny_bind (wpAny_alive ?_)
    cases hg : s.heap.get? a.toNat with
    | none => exact wpAny_pure (.inl ⟨rfl, rfl⟩)
    | some o =>
      simp only [Option.isNone_some, Bool.false_eq_true, if_false]
      refine wpAny_bind (wpAny_field hz rfl (x := f1) rfl ?_)
      rcases hf1 with rfl | rfl
      · rw [if_pos (by decide)]
        refine wpAny_bind (wpAny_setField_rec hz (by simp) fun h' hz' hs => wpAny_pure (.inr ⟨rfl, h', .bool true, rfl, .inr rfl, hz', hs⟩))
      · rw [if_neg (by decide)]
        exact wpAny_pure (.inr ⟨rfl, s.heap, .bool true, rfl, .inr rfl, hz, rfl, fun _ _ => rfl⟩)
theorem zipN_next_item {Q : Value → Shared → Prop} (D : ZApart z TI TO its ls) (hne : its ≠ []) (hsz : its.length ≤ 1000) (hf : FOk f0) (hf1 : f1 = .bool false ∨ f1 = .bool true)
    (hz : ZipN s.heap z TI TO f0 f1) (hTI : TupN s.heap TI (its.map Value.ref)) (hTO : TupN s.heap TO olds) (ho : olds.length = its.length) (hi : ItsAt s.heap its ls fun _ => i) (hr : RowAt s.heap ls i xs)
    (hQ : ∀ h' g0 g1 news, FOk g0 → (g1 = .bool false ∨ g1 = .bool true) → ZipN h' z TI TO g0 g1 → TupN h' TO news → news.length = its.length → ItsAt h' its ls (fun _ => i + 1) → TupN h' s.heap.objs.size xs →
      h'.objs.size = s.heap.objs.size + 1 → (∀ c o, c ≠ z → c ≠ TO → c ∉ its → s.heap.get? c = some o → h'.get? c = some o) → Q (.ref s.heap.objs.size) { s with heap := h' }) :
    wpAny (model prog w) A (Builtin.«zip.__next__» ⟨[.ref z], []⟩) (fun fin s' => ∃ v, fin = .done (.ret v) ∧ Q v s') E s := by
  have hxl : xs.length = its.length := hr.1.trans D.len.symm
  show wpAny _ _ (field (.ref z) 2 >>= _) _ _ _
  refine wpAny_bind (wpAny_field hz rfl (x := .bool false) rfl ?_)
  show wpAny _ _ (field (.ref z) 3 >>= _) _ _ _
  refine wpAny_bind (wpAny_field hz rfl (x := .ref TI) rfl ?_)
  refine wpAny_bind (wpAny_seqItems hTI rfl ?_)
  have he : (its.map Value.ref).toArray.isEmpty = false := by
    cases its with
    | nil => exact absurd rfl hne
    | cons x l => rfl
  simp only [he, Bool.false_eq_true, if_false]
  refine wpAny_bind (wpAny_mono (zipN_free hf hf1 hz) (fun b s' hb => ?_) fun _ _ e => e)
  rcases hb with ⟨rfl, rfl⟩ | ⟨rfl, h1, g1, rfl, hg1, hz1, hs1⟩
  · simp only [if_true]
    refine wpAny_bind (wpAny_rule ?_)
    refine wpAny_bind (wpAny_field hz rfl (x := .ref TO) rfl ?_)
    refine wpAny_bind (wpAny_setField_rec hz (by simp) fun h₁ hz₁ hs₁ => ?_)
    refine wpAny_bind ?_
    refine wpAny_each _ (Iv1 s z TI TO its ls f1 olds xs i) _ 0 _ _ ?_ ⟨rfl, h₁, rfl, hs₁.1, hz₁, ?_, ?_, fun c o c1 _ _ e => hs₁.extBut c o c1 e⟩ ?_
    · rintro j ⟨xv, n⟩ b s' hx ⟨rfl, h, rfl, hsz', hz', hTO', hi', hk⟩
      obtain ⟨rfl, hj, hxv⟩ : n = j ∧ ∃ it, its[j]? = some it ∧ xv = .ref it := by
        rw [List.getElem?_zipIdx] at hx
        cases hq : (its.map Value.ref)[j]? with
        | none => rw [hq] at hx; cases hx
        | some v =>
          rw [hq] at hx
          rw [List.getElem?_map] at hq
          cases hq2 : its[j]? with
          | none => rw [hq2] at hq; cases hq
          | some it =>
            rw [hq2] at hq
            cases hq
            simp at hx
            exact ⟨by omega, it, rfl, hx.1.symm⟩
      obtain ⟨it, hit, rfl⟩ : ∃ it, its[n]? = some it ∧ xv = .ref it := ⟨hj, hxv⟩
      have hn : n < its.length := (List.getElem?_eq_some_iff.mp hit).1
      simp only [Nat.zero_add] at hTO' hi' ⊢
      obtain ⟨l, hl⟩ : ∃ l, ls[n]? = some l := ⟨ls[n]'(by have := D.len; omega), List.getElem?_eq_getElem _⟩
      obtain ⟨x, hxs⟩ : ∃ x, xs[n]? = some x := ⟨xs[n]'(by omega), List.getElem?_eq_getElem _⟩
      obtain ⟨items, hlt, hgx⟩ := hr.2 n l x hl hxs
      have hlt' : h.IsTuple l items := by
        obtain ⟨ol, a1, a2⟩ := hlt
        exact ⟨ol, hk l ol (ne_mem D.lz (List.mem_of_getElem? hl)) (ne_mem D.lTO (List.mem_of_getElem? hl)) (fun q => D.li l q (List.mem_of_getElem? hl)) a1, a2⟩
      have hit' : h.IsTupleIter it l i := by
        have := hi' n it l hit hl
        simpa using this
      refine wpAny_bind (wpAny_onRaise ?_)
      show wpAny _ _ (Builtin.SmallTypes.nextOf (.ref it) >>= _) _ _ _
      refine wpAny_bind (RZ.nextOf_tuple_item hit' hlt' hgx fun h₂ g2 hs₂ => wpAny_pure ?_)
      have neT : TO ≠ it := fun q => D.iTO (q ▸ List.mem_of_getElem? hit)
      have nez : z ≠ it := fun q => D.iz (q ▸ List.mem_of_getElem? hit)
      have hTO₂ : TupN h₂ TO (xs.take n ++ olds.drop n) := hs₂.extBut _ _ neT hTO'
      refine wpAny_bind (wpAny_seqItems hTO₂ rfl ?_)
      have hlen : (xs.take n ++ olds.drop n).length = its.length := by rw [List.length_append, List.length_take, List.length_drop]; omega
      have hsl : (xs.take n ++ olds.drop n).toArray.size ≤ sizeLine := by rw [List.size_toArray, hlen, sizeLine_eq]; omega
      refine wpAny_bind (wpAny_updateSeq hTO₂ rfl ?_ hsl (by rw [Array.size_setIfInBounds]; omega))
      refine wpAny_bind (wpAny_letGo (wpAny_pure ⟨_, rfl, rfl, _, rfl, ?_, ?_, ?_, ?_, ?_⟩))
      · show (h₂.update TO _).objs.size = _
        rw [Heap.size_update, hs₂.1, hsz']
      · exact (Heap.SameBut.update ..).extBut _ _ D.TOz.symm (hs₂.extBut _ _ nez hz')
      · show (h₂.update TO _).get? TO = _
        rw [Heap.get?_update_self _ hTO₂ rfl]
        simp [Obj.mapSeq, take_set xs olds n x hxs (by omega)]
        omega
      · refine ItsAt.step (i := i) D hit hl hi' (h' := h₂.update TO _) (Heap.IsTupleIter.at g2 fun o q => (Heap.SameBut.update ..).extBut _ _ neT.symm q) fun c o hm hc q => ?_
        exact (Heap.SameBut.update ..).extBut _ _ (ne_mem D.iTO hm) (hs₂.extBut _ _ hc q)
      · intro c o c1 c2 c3 q
        exact (Heap.SameBut.update ..).extBut _ _ c2 (hs₂.extBut _ _ (fun e => c3 (e ▸ List.mem_of_getElem? hit)) (hk c o c1 c2 c3 q))
    · rw [List.take_zero, List.drop_zero]
      exact hs₁.extBut _ _ D.TOz hTO
    · intro k it l a b
      show h₁.IsTupleIter it l (if k < 0 then i + 1 else i)
      rw [if_neg (by omega)]
      exact (hi k it l a b).extBut hs₁.extBut (ne_mem D.iz (List.mem_of_getElem? a))
    · rintro b s' ⟨rfl, h, rfl, hsz', hz', hTO', hi', hk⟩
      have hl : (its.map Value.ref).zipIdx.length = its.length := by simp
      rw [hl, Nat.zero_add, List.take_of_length_le (by omega), List.drop_of_length_le (by omega), List.append_nil] at hTO'
      rw [hl, Nat.zero_add] at hi'
      refine wpAny_bind (wpAny_seqItems hTO' rfl ?_)
      refine wpAny_bind (wpAny_newTuple ?_ (by show xs.toArray.toList.length ≤ _; simp only []; rw [hxl, sizeLine_eq]; omega))
      show wpAny _ _ (Builtin.SmallTypes.ownedTupleHandOut (.ref z) (.ref h.objs.size) >>= _) _ _ _
      refine wpAny_bind ?_
      unfold Builtin.SmallTypes.ownedTupleHandOut
      have hz₃ : ZipN (h.push { cls := .type "tuple", data := .seq xs.toArray }) z TI TO .ellipsis f1 := Heap.get?_push_of_some _ hz'
      refine wpAny_bind (wpAny_setField_rec hz₃ (by simp) fun h₄ hz₄ hs₄ => ?_)
      refine wpAny_setField_rec hz₄ (by simp) fun h₅ hz₅ hs₅ => ?_
      have up : ∀ c o, c ≠ z → h.get? c = some o → h₅.get? c = some o := fun c o c1 e => hs₅.extBut _ _ c1 (hs₄.extBut _ _ c1 (Heap.get?_push_of_some _ e))
      have hzl : z < h.objs.size := Heap.lt_size hz'
      have hT : TupN h₅ h.objs.size xs := hs₅.extBut _ _ (Nat.ne_of_gt hzl) (hs₄.extBut _ _ (Nat.ne_of_gt hzl) (Heap.get?_push_size _ rfl))
      have hz8 : h₅.objs.size = h.objs.size + 1 := by rw [hs₅.1, hs₄.1, Heap.size_push]
      refine wpAny_pure ⟨_, rfl, ?_⟩
      show Q (.ref h.objs.size) _
      rw [hsz'] at hT hz8 ⊢
      refine hQ h₅ (rawInt h.objs.size) (.bool false) xs (.inr ⟨_, rfl⟩) (.inl rfl) hz₅ (up _ _ D.TOz hTO') hxl (fun k it l a b => ?_) hT hz8 fun c o c1 c2 c3 e => up c o c1 (hk c o c1 c2 c3 e)
      have hkl : k < its.length := (List.getElem?_eq_some_iff.mp a).1
      have := hi' k it l a b
      simp only [hkl, if_true] at this
      exact this.at fun o q => up _ o (ne_mem D.iz (List.mem_of_getElem? a)) q
  · simp only [Bool.false_eq_true, if_false]
    refine wpAny_bind ?_
    rw [List.forIn_toArray]
    refine wpAny_each _ (Iv2 s z TI TO its ls f0 g1 olds xs i) _ 0 _ _ ?_ ⟨rfl, h1, rfl, hs1.1, hz1, hs1.extBut _ _ D.TOz hTO, ?_, fun c o c1 _ e => hs1.extBut c o c1 e⟩ ?_
    · rintro n xv b s' hx ⟨rfl, h, rfl, hsz', hz', hTO', hi', hk⟩
      obtain ⟨it, hit, rfl⟩ : ∃ it, its[n]? = some it ∧ xv = .ref it := by
        rw [List.getElem?_map] at hx
        cases hq2 : its[n]? with
        | none => rw [hq2] at hx; cases hx
        | some it =>
          rw [hq2] at hx
          cases hx
          exact ⟨it, rfl, rfl⟩
      have hn : n < its.length := (List.getElem?_eq_some_iff.mp hit).1
      simp only [Nat.zero_add] at hi' ⊢
      obtain ⟨l, hl⟩ : ∃ l, ls[n]? = some l := ⟨ls[n]'(by have := D.len; omega), List.getElem?_eq_getElem _⟩
      obtain ⟨x, hxs⟩ : ∃ x, xs[n]? = some x := ⟨xs[n]'(by omega), List.getElem?_eq_getElem _⟩
      obtain ⟨items, hlt, hgx⟩ := hr.2 n l x hl hxs
      have hlt' : h.IsTuple l items := by
        obtain ⟨ol, a1, a2⟩ := hlt
        exact ⟨ol, hk l ol (ne_mem D.lz (List.mem_of_getElem? hl)) (fun q => D.li l q (List.mem_of_getElem? hl)) a1, a2⟩
      have hit' : h.IsTupleIter it l i := by
        have := hi' n it l hit hl
        simpa using this
      refine wpAny_bind (wpAny_holding ?_)
      show wpAny _ _ (Builtin.SmallTypes.nextOf (.ref it) >>= _) _ _ _
      refine wpAny_bind (RZ.nextOf_tuple_item hit' hlt' hgx fun h₂ g2 hs₂ => wpAny_pure (wpAny_pure ?_))
      have neT : TO ≠ it := fun q => D.iTO (q ▸ List.mem_of_getElem? hit)
      have nez : z ≠ it := fun q => D.iz (q ▸ List.mem_of_getElem? hit)
      refine ⟨_, rfl, ?_, h₂, rfl, hs₂.1.trans hsz', hs₂.extBut _ _ nez hz', hs₂.extBut _ _ neT hTO', ItsAt.step D hit hl hi' g2 fun c o hm hc q => hs₂.extBut _ _ hc q, fun c o c1 c2 q => hs₂.extBut _ _ (fun e => c2 (e ▸ List.mem_of_getElem? hit)) (hk c o c1 c2 q)⟩
      rw [List.take_succ, hxs]
      simp
    · intro k it l a b
      show h1.IsTupleIter it l (if k < 0 then i + 1 else i)
      rw [if_neg (by omega)]
      exact (hi k it l a b).extBut hs1.extBut (ne_mem D.iz (List.mem_of_getElem? a))
    · rintro b s' ⟨rfl, h, rfl, hsz', hz', hTO', hi', hk⟩
      have hl : (its.map Value.ref).length = its.length := by simp
      rw [hl, Nat.zero_add] at hi' ⊢
      rw [List.take_of_length_le (by omega)]
      refine wpAny_bind (wpAny_newTuple ?_ (by show xs.toArray.toList.length ≤ _; simp only []; rw [hxl, sizeLine_eq]; omega))
      refine wpAny_pure ⟨_, rfl, ?_⟩
      show Q (.ref h.objs.size) _
      have hT : TupN (h.push { cls := .type "tuple", data := .seq xs.toArray }) h.objs.size xs := Heap.get?_push_size _ rfl
      have hz8 : (h.push { cls := .type "tuple", data := .seq xs.toArray }).objs.size = h.objs.size + 1 := Heap.size_push ..
      have up : ∀ c o, h.get? c = some o → (h.push { cls := .type "tuple", data := .seq xs.toArray }).get? c = some o := fun c o e => Heap.get?_push_of_some _ e
      rw [hsz'] at hT hz8 ⊢
      refine hQ _ f0 g1 olds hf hg1 (up _ _ hz') (up _ _ hTO') ho (fun k it l a b => ?_) hT hz8 fun c o c1 _ c3 e => up c o (hk c o c1 c3 e)
      have hkl : k < its.length := (List.getElem?_eq_some_iff.mp a).1
      have := hi' k it l a b
      simp only [hkl, if_true] at this
      exact this.at fun o q => up _ o q
theorem zipN_next_end {Q : Fin → Shared → Prop} (hh : A.handled = none) (D : ZApart z TI TO its ls) (hf : FOk f0) (hf1 : f1 = .bool false ∨ f1 = .bool true)
    (hz : ZipN s.heap z TI TO f0 f1) (hTI : TupN s.heap TI (its.map Value.ref)) (hi : ItsAt s.heap its ls fun _ => i) {l : Addr} {items : Array Value} (hl0 : ls[0]? = some l) (hli : s.heap.IsTuple l items) (hend : items[i]? = none)
    (hE : ∀ h' e, (∀ c o, c ≠ z → c ≠ TO → c ∉ its → s.heap.get? c = some o → h'.get? c = some o) → (∃ o, h'.get? e = some o ∧ o.cls = .type "StopIteration") → E (.ref e) { s with heap := h' }) :
    wpAny (model prog w) A (Builtin.«zip.__next__» ⟨[.ref z], []⟩) Q E s := by
  obtain ⟨it, rest, rfl⟩ : ∃ it rest, its = it :: rest := by
    cases its with
    | nil =>
      have := D.len
      cases ls with
      | nil => cases hl0
      | cons _ _ => cases this
    | cons it rest => exact ⟨it, rest, rfl⟩
  have hit0 : s.heap.IsTupleIter it l i := hi 0 it l rfl hl0
  have hlm : l ∈ ls := List.mem_of_getElem? hl0
  have hitm : it ∈ it :: rest := List.mem_cons_self
  show wpAny _ _ (field (.ref z) 2 >>= _) _ _ _
  refine wpAny_bind (wpAny_field hz rfl (x := .bool false) rfl ?_)
  show wpAny _ _ (field (.ref z) 3 >>= _) _ _ _
  refine wpAny_bind (wpAny_field hz rfl (x := .ref TI) rfl ?_)
  refine wpAny_bind (wpAny_seqItems hTI rfl ?_)
  have he : ((it :: rest).map Value.ref).toArray.isEmpty = false := rfl
  simp only [he, Bool.false_eq_true, if_false]
  refine wpAny_bind (wpAny_mono (zipN_free hf hf1 hz) (fun b s' hb => ?_) fun _ _ e => e)
  rcases hb with ⟨rfl, rfl⟩ | ⟨rfl, h1, g1, rfl, hg1, hz1, hs1⟩
  · simp only [if_true]
    refine wpAny_bind (wpAny_rule ?_)
    refine wpAny_bind (wpAny_field hz rfl (x := .ref TO) rfl ?_)
    refine wpAny_bind (wpAny_setField_rec hz (by simp) fun h₁ hz₁ hs₁ => ?_)
    refine wpAny_bind ?_
    simp only [List.map_cons, List.zipIdx_cons, List.forIn_cons]
    refine wpAny_bind (wpAny_bind (wpAny_onRaise ?_))
    show wpAny _ _ (Builtin.SmallTypes.nextOf (.ref it) >>= _) _ _ _
    refine wpAny_bind (RZ.nextOf_tuple_end hh (hit0.extBut hs₁.extBut (ne_mem D.iz hitm)) (hli.extBut hs₁.extBut (ne_mem D.lz hlm)) hend fun h₂ e hs₂ he => ?_)
    obtain ⟨oe, hoe, hce⟩ := he
    have hz₂ : ZipN h₂ z TI TO .ellipsis f1 := hs₂ _ _ (fun q => D.iz (q ▸ hitm)) hz₁
    have hez : e ≠ z := fun x => by subst x; rw [hz₂] at hoe; cases hoe; simp at hce
    exact wpAny_setField_rec hz₂ (by simp) fun h₃ _ hs₃ => hE h₃ e (fun c o c1 _ c3 x => hs₃.extBut _ _ c1 (hs₂ _ _ (fun q => c3 (q ▸ hitm)) (hs₁.extBut _ _ c1 x))) ⟨oe, hs₃.extBut _ _ hez hoe, hce⟩
  · simp only [Bool.false_eq_true, if_false]
    refine wpAny_bind ?_
    rw [List.forIn_toArray]
    simp only [List.map_cons, List.forIn_cons]
    refine wpAny_bind (wpAny_bind (wpAny_holding ?_))
    show wpAny _ _ (Builtin.SmallTypes.nextOf (.ref it) >>= _) _ _ _
    exact wpAny_bind (RZ.nextOf_tuple_end hh (hit0.extBut hs1.extBut (ne_mem D.iz hitm)) (hli.extBut hs1.extBut (ne_mem D.lz hlm)) hend fun h₂ e hs₂ he =>
      hE h₂ e (fun c o c1 _ c3 x => hs₂ _ _ (fun q => c3 (q ▸ hitm)) (hs1.extBut _ _ c1 x)) he)
theorem pyNext_zipN_item {Q : Option Value → Shared → Prop} (D : ZApart z TI TO its ls) (hne : its ≠ []) (hsz : its.length ≤ 1000) (hf : FOk f0) (hf1 : f1 = .bool false ∨ f1 = .bool true)
    (hz : ZipN s.heap z TI TO f0 f1) (hTI : TupN s.heap TI (its.map Value.ref)) (hTO : TupN s.heap TO olds) (ho : olds.length = its.length) (hi : ItsAt s.heap its ls fun _ => i) (hr : RowAt s.heap ls i xs)
    (hQ : ∀ h' g0 g1 news, FOk g0 → (g1 = .bool false ∨ g1 = .bool true) → ZipN h' z TI TO g0 g1 → TupN h' TO news → news.length = its.length → ItsAt h' its ls (fun _ => i + 1) → TupN h' s.heap.objs.size xs →
      h'.objs.size = s.heap.objs.size + 1 → (∀ c o, c ≠ z → c ≠ TO → c ∉ its → s.heap.get? c = some o → h'.get? c = some o) → Q (some (.ref s.heap.objs.size)) { s with heap := h' }) :
    wpAny (model prog w) A (pyNext (.ref z)) Q E s := by
  have hT : s.TypeIs (.ref z) "zip" := ⟨_, hz, rfl⟩
  unfold pyNext
  exact wpAny_bind (wpAny_attempt (wpAny_callSpecial?_slot (name := Str.ofString "__next__") hT F.slot_zip_next (wpAny_call_entry F.slot_zip_next hT F.entry_zip_next
    (zipN_next_item D hne hsz hf hf1 hz hTI hTO ho hi hr fun h' g0 g1 news a1 a2 a3 a4 a5 a6 a7 a8 a9 => wpAny_pure (hQ h' g0 g1 news a1 a2 a3 a4 a5 a6 a7 a8 a9)) (F.args_zip_next_1 _))))
theorem pyNext_zipN_end {Q : Option Value → Shared → Prop} (hh : A.handled = none) (D : ZApart z TI TO its ls) (hf : FOk f0) (hf1 : f1 = .bool false ∨ f1 = .bool true)
    (hz : ZipN s.heap z TI TO f0 f1) (hTI : TupN s.heap TI (its.map Value.ref)) (hi : ItsAt s.heap its ls fun _ => i) {l : Addr} {items : Array Value} (hl0 : ls[0]? = some l) (hli : s.heap.IsTuple l items) (hend : items[i]? = none)
    (hQ : ∀ h', (∀ c o, c ≠ z → c ≠ TO → c ∉ its → s.heap.get? c = some o → h'.get? c = some o) → Q none { s with heap := h' }) : wpAny (model prog w) A (pyNext (.ref z)) Q E s := by
  have hT : s.TypeIs (.ref z) "zip" := ⟨_, hz, rfl⟩
  unfold pyNext
  refine wpAny_bind (wpAny_attempt (wpAny_callSpecial?_slot (name := Str.ofString "__next__") hT F.slot_zip_next (wpAny_call_entry F.slot_zip_next hT F.entry_zip_next
    (zipN_next_end hh D hf hf1 hz hTI hi hl0 hli hend fun h' e hk he => ?_) (F.args_zip_next_1 _))))
  obtain ⟨o, ho, hc⟩ := he
  exact wpAny_bind (wpAny_isInstance (T := "StopIteration") (b := true) ⟨o, ho, hc⟩ isSubtype_stop (wpAny_pure (hQ _ hk)))

/-! the making -/
def itsOf (n k : Nat) : List Addr := (List.range k).map fun j => n + j
theorem itsOf_len (n k : Nat) : (itsOf n k).length = k := by simp [itsOf]
theorem itsOf_get {n k j : Nat} {a : Addr} (h : (itsOf n k)[j]? = some a) : j < k ∧ a = n + j := by
  unfold itsOf at h
  rw [List.getElem?_map] at h
  by_cases q : j < k
  · rw [List.getElem?_range q] at h
    cases h
    exact ⟨q, rfl⟩
  · rw [List.getElem?_eq_none (by simpa using q)] at h
    cases h
theorem itsOf_mem {n k : Nat} {a : Addr} (h : a ∈ itsOf n k) : n ≤ a ∧ a < n + k := by
  obtain ⟨j, hj, rfl⟩ := List.mem_map.mp h
  exact ⟨Nat.le_add_right _ _, Nat.add_lt_add_left (List.mem_range.mp hj) _⟩
theorem itsOf_nd (n k : Nat) : (itsOf n k).Nodup := by
  unfold itsOf
  rw [List.nodup_iff_pairwise_ne, List.pairwise_map]
  exact List.nodup_range.imp fun h e => h (Nat.add_left_cancel e)
theorem wpAny_iters {ls : List Addr} {Q : List Value → Shared → Prop} (hl : ∀ l ∈ ls, ∃ items, s.heap.IsTuple l items)
    (hQ : ∀ h', h'.objs.size = s.heap.objs.size + ls.length → ItsAt h' (itsOf s.heap.objs.size ls.length) ls (fun _ => 0) → (∀ c o, s.heap.get? c = some o → h'.get? c = some o) →
      Q ((itsOf s.heap.objs.size ls.length).map Value.ref) { s with heap := h' }) : wpAny (model prog w) A (Builtin.SmallTypes.iterAll (ls.map Value.ref)) Q E s := by
  unfold Builtin.SmallTypes.iterAll
  refine wpAny_bind ?_
  refine wpAny_each _ (fun j b st => b = ((itsOf s.heap.objs.size j).map Value.ref).toArray ∧ ∃ h, st = { s with heap := h } ∧ h.objs.size = s.heap.objs.size + j ∧ ItsAt h (itsOf s.heap.objs.size j) ls (fun _ => 0) ∧ ∀ c o, s.heap.get? c = some o → h.get? c = some o) _ 0 _ _ ?_
    ⟨rfl, s.heap, rfl, rfl, (fun (k : Nat) (it l : Addr) a _ => absurd (itsOf_get a).1 (Nat.not_lt_zero _)), fun _ _ e => e⟩ ?_
  · rintro n xv b s' hx ⟨rfl, h, rfl, hsz, hi, hk⟩
    obtain ⟨l, hls, rfl⟩ : ∃ l, ls[n]? = some l ∧ xv = .ref l := by
      rw [List.getElem?_map] at hx
      cases hq : ls[n]? with
      | none => rw [hq] at hx; cases hx
      | some l =>
        rw [hq] at hx
        cases hx
        exact ⟨l, rfl, rfl⟩
    simp only [Nat.zero_add] at hi hsz ⊢
    obtain ⟨items, o, ho, hc⟩ := hl l (List.mem_of_getElem? hls)
    refine wpAny_bind (wpAny_holding (wpAny_pyIter_tuple ⟨o, hk l o ho, hc⟩ (wpAny_pure ⟨_, rfl, ?_, _, rfl, ?_, ?_, ?_⟩)))
    · show _ = ((itsOf s.heap.objs.size (n + 1)).map Value.ref).toArray
      unfold itsOf
      rw [List.range_succ]
      simp [hsz]
    · rw [Heap.size_push, hsz]
      omega
    · intro k it l' a b
      obtain ⟨q1, rfl⟩ := itsOf_get a
      by_cases e : k = n
      · subst e
        rw [hls] at b
        cases b
        rw [← hsz]
        exact ⟨_, Heap.get?_push_size _ rfl, rfl, rfl⟩
      · refine (hi k _ l' (by unfold itsOf; rw [List.getElem?_map, List.getElem?_range (by omega)]; rfl) b).at fun o q => Heap.get?_push_of_some _ q
    · exact fun c o e => Heap.get?_push_of_some _ (hk c o e)
  · rintro b s' ⟨rfl, h, rfl, hsz, hi, hk⟩
    simp only [Nat.zero_add, List.length_map] at hi hsz ⊢
    exact wpAny_pure (hQ h hsz hi hk)
end
end

theorem meets_zipN_new (ls : List Addr) :
    Meets (Builtin.«zip.__new__» ⟨.type "zip" :: ls.map Value.ref, []⟩) (fun _ R s => (∀ l ∈ ls, ∃ items, s.heap.IsTuple l items) ∧ ls.length ≤ 1000 ∧
      ∀ h' : Heap, ZipN h' (s.heap.objs.size + ls.length + 2) (s.heap.objs.size + ls.length) (s.heap.objs.size + ls.length + 1) .none (.bool false) → TupN h' (s.heap.objs.size + ls.length) ((itsOf s.heap.objs.size ls.length).map Value.ref) →
        TupN h' (s.heap.objs.size + ls.length + 1) (ls.map fun _ => .none) → ItsAt h' (itsOf s.heap.objs.size ls.length) ls (fun _ => 0) → (∀ c o, s.heap.get? c = some o → h'.get? c = some o) →
        R (.ok (.ret (.ref (s.heap.objs.size + ls.length + 2)))) { s with heap := h' }) :=
  .of_wp fun prog w A R s h => by
    obtain ⟨hp, g, d, tk, os⟩ := s
    obtain ⟨hl, hz, h⟩ := h
    have hsub := sub_zip
    show wpAny _ _ (Builtin.SmallTypes.newClass "zip" ⟨.type "zip" :: ls.map Value.ref, []⟩ >>= _) _ _ _
    refine wpAny_bind ?_
    have nc : ∀ {Q : Value × List Value → Shared → Prop} {A' : Around} {E : Value → Shared → Prop}, Q (.type "zip", ls.map Value.ref) ⟨hp, g, d, tk, os⟩ → wpAny (model prog w) A' (Builtin.SmallTypes.newClass "zip" ⟨.type "zip" :: ls.map Value.ref, []⟩) Q E ⟨hp, g, d, tk, os⟩ := by
      intro Q A' E q
      unfold Builtin.SmallTypes.newClass
      wp_walk
      exact q
    refine nc ?_
    dsimp only
    simp only [List.length_nil]
    refine wpAny_bind (wpAny_iters (s := ⟨hp, g, d, tk, os⟩) hl fun h1 hs1 hi1 hk1 => ?_)
    have hlen : ((itsOf hp.objs.size ls.length).map Value.ref).length = ls.length := by simp [itsOf]
    have hsz : ls.length ≤ sizeLine := by rw [sizeLine_eq]; omega
    refine wpAny_bind (wpAny_newTuple ?_ (by rw [show (itsOf (Shared.heap ⟨hp, g, d, tk, os⟩).objs.size ls.length) = itsOf hp.objs.size ls.length from rfl, hlen]; exact hsz))
    refine wpAny_bind (wpAny_newTuple ?_ (by rw [List.length_map, show (itsOf (Shared.heap ⟨hp, g, d, tk, os⟩).objs.size ls.length) = itsOf hp.objs.size ls.length from rfl, hlen]; exact hsz))
    refine wpAny_bind ?_
    unfold Builtin.SmallTypes.newRecord
    refine wpAny_newObj_type ?_ (by simp [sizeOk, Builtin.SmallTypes.ownedTupleFields, sizeLine_eq])
    refine wpAny_pure ⟨_, rfl, ?_⟩
    have e1 : h1.objs.size = hp.objs.size + ls.length := hs1
    have e2 : ∀ o : Obj, (h1.push o).objs.size = hp.objs.size + ls.length + 1 := fun o => by rw [Heap.size_push, e1]
    have e3 : ∀ o o' : Obj, ((h1.push o).push o').objs.size = hp.objs.size + ls.length + 2 := fun o o' => by rw [Heap.size_push, e2]
    have n1 : ((itsOf hp.objs.size ls.length).map Value.ref).map (fun _ => Value.none) = List.replicate ls.length Value.none := List.eq_replicate_iff.mpr ⟨by rw [List.length_map, hlen], fun b hb => by
      obtain ⟨_, _, e⟩ := List.mem_map.mp hb
      exact e.symm⟩
    have n2 : (ls.map fun _ => Value.none) = List.replicate ls.length Value.none := List.eq_replicate_iff.mpr ⟨by rw [List.length_map], fun b hb => by
      obtain ⟨_, _, e⟩ := List.mem_map.mp hb
      exact e.symm⟩
    generalize hoA : ({ cls := .type "tuple", data := .seq ((itsOf hp.objs.size ls.length).map Value.ref).toArray } : Obj) = oA
    generalize hoB : ({ cls := .type "tuple", data := .seq (((itsOf hp.objs.size ls.length).map Value.ref).map (fun _ => Value.none)).toArray } : Obj) = oB
    show R (.ok (.ret (.ref ((h1.push oA).push oB).objs.size))) ⟨((h1.push oA).push oB).push { cls := .type "zip", data := .fields #[.none, .bool false, .bool false, .ref h1.objs.size, .ref (h1.push oA).objs.size] }, g, d, tk, os⟩
    have gz : (((h1.push oA).push oB).push { cls := .type "zip", data := .fields #[.none, .bool false, .bool false, .ref h1.objs.size, .ref (h1.push oA).objs.size] }).get? ((h1.push oA).push oB).objs.size = some _ := Heap.get?_push_size _ rfl
    have gA : (((h1.push oA).push oB).push { cls := .type "zip", data := .fields #[.none, .bool false, .bool false, .ref h1.objs.size, .ref (h1.push oA).objs.size] }).get? h1.objs.size = some oA := Heap.get?_push_of_some _ (Heap.get?_push_of_some _ (Heap.get?_push_size _ (by subst hoA; rfl)))
    have gB : (((h1.push oA).push oB).push { cls := .type "zip", data := .fields #[.none, .bool false, .bool false, .ref h1.objs.size, .ref (h1.push oA).objs.size] }).get? (h1.push oA).objs.size = some oB := Heap.get?_push_of_some _ (Heap.get?_push_size _ (by subst hoB; rfl))
    have up : ∀ c o, h1.get? c = some o → (((h1.push oA).push oB).push { cls := .type "zip", data := .fields #[.none, .bool false, .bool false, .ref h1.objs.size, .ref (h1.push oA).objs.size] }).get? c = some o := fun c o e => Heap.get?_push_of_some _ (Heap.get?_push_of_some _ (Heap.get?_push_of_some _ e))
    rw [e3] at gz ⊢
    rw [e2] at gB gz gA up ⊢
    rw [e1] at gA gz up gB ⊢
    refine h _ gz (by subst hoA; exact gA) ?_ (fun k it l a b => (hi1 k it l a b).at fun o q => up _ o q) fun c o e => up c o (hk1 c o e)
    show Heap.get? _ _ = _
    rw [gB, ← hoB, n1, n2]
theorem typeCall_zipN : ∀ vs : List Value, vs.length ≤ 12 → checkTypeCall "zip" ⟨vs, []⟩ = pure ()
  | [], _ => by kernel_rfl
  | [_], _ => by kernel_rfl
  | [_, _], _ => by kernel_rfl
  | [_, _, _], _ => by kernel_rfl
  | [_, _, _, _], _ => by kernel_rfl
  | [_, _, _, _, _], _ => by kernel_rfl
  | [_, _, _, _, _, _], _ => by kernel_rfl
  | [_, _, _, _, _, _, _], _ => by kernel_rfl
  | [_, _, _, _, _, _, _, _], _ => by kernel_rfl
  | [_, _, _, _, _, _, _, _, _], _ => by kernel_rfl
  | [_, _, _, _, _, _, _, _, _, _], _ => by kernel_rfl
  | [_, _, _, _, _, _, _, _, _, _, _], _ => by kernel_rfl
  | [_, _, _, _, _, _, _, _, _, _, _, _], _ => by kernel_rfl
  | _ :: _ :: _ :: _ :: _ :: _ :: _ :: _ :: _ :: _ :: _ :: _ :: _ :: _, h => absurd h (by simp)
theorem newCall_zipN : ∀ vs : List Value, vs.length ≤ 12 → checkBuiltinCall "zip.__new__" ⟨.type "zip" :: vs, []⟩ = pure ()
  | [], _ => by kernel_rfl
  | [_], _ => by kernel_rfl
  | [_, _], _ => by kernel_rfl
  | [_, _, _], _ => by kernel_rfl
  | [_, _, _, _], _ => by kernel_rfl
  | [_, _, _, _, _], _ => by kernel_rfl
  | [_, _, _, _, _, _], _ => by kernel_rfl
  | [_, _, _, _, _, _, _], _ => by kernel_rfl
  | [_, _, _, _, _, _, _, _], _ => by kernel_rfl
  | [_, _, _, _, _, _, _, _, _], _ => by kernel_rfl
  | [_, _, _, _, _, _, _, _, _, _], _ => by kernel_rfl
  | [_, _, _, _, _, _, _, _, _, _, _], _ => by kernel_rfl
  | [_, _, _, _, _, _, _, _, _, _, _, _], _ => by kernel_rfl
  | _ :: _ :: _ :: _ :: _ :: _ :: _ :: _ :: _ :: _ :: _ :: _ :: _ :: _, h => absurd h (by simp)
theorem args_initN (obj : Value) : ∀ vs : List Value, vs.length ≤ 12 → argsOk "object.__init__" ⟨obj :: vs, []⟩
  | [], _ => by unfold argsOk; rw [signature?_of (id := "object.__init__") (n := ['_', '_', 't', 'i', 'n', 'i', '_', '_']) (o := ['t', 'c', 'e', 'j', 'b', 'o']) (by kernel_rfl) F.owner_object]; kernel_rfl
  | [_], _ => by unfold argsOk; rw [signature?_of (id := "object.__init__") (n := ['_', '_', 't', 'i', 'n', 'i', '_', '_']) (o := ['t', 'c', 'e', 'j', 'b', 'o']) (by kernel_rfl) F.owner_object]; kernel_rfl
  | [_, _], _ => by unfold argsOk; rw [signature?_of (id := "object.__init__") (n := ['_', '_', 't', 'i', 'n', 'i', '_', '_']) (o := ['t', 'c', 'e', 'j', 'b', 'o']) (by kernel_rfl) F.owner_object]; kernel_rfl
  | [_, _, _], _ => by unfold argsOk; rw [signature?_of (id := "object.__init__") (n := ['_', '_', 't', 'i', 'n', 'i', '_', '_']) (o := ['t', 'c', 'e', 'j', 'b', 'o']) (by kernel_rfl) F.owner_object]; kernel_rfl
  | [_, _, _, _], _ => by unfold argsOk; rw [signature?_of (id := "object.__init__") (n := ['_', '_', 't', 'i', 'n', 'i', '_', '_']) (o := ['t', 'c', 'e', 'j', 'b', 'o']) (by kernel_rfl) F.owner_object]; kernel_rfl
  | [_, _, _, _, _], _ => by unfold argsOk; rw [signature?_of (id := "object.__init__") (n := ['_', '_', 't', 'i', 'n', 'i', '_', '_']) (o := ['t', 'c', 'e', 'j', 'b', 'o']) (by kernel_rfl) F.owner_object]; kernel_rfl
  | [_, _, _, _, _, _], _ => by unfold argsOk; rw [signature?_of (id := "object.__init__") (n := ['_', '_', 't', 'i', 'n', 'i', '_', '_']) (o := ['t', 'c', 'e', 'j', 'b', 'o']) (by kernel_rfl) F.owner_object]; kernel_rfl
  | [_, _, _, _, _, _, _], _ => by unfold argsOk; rw [signature?_of (id := "object.__init__") (n := ['_', '_', 't', 'i', 'n', 'i', '_', '_']) (o := ['t', 'c', 'e', 'j', 'b', 'o']) (by kernel_rfl) F.owner_object]; kernel_rfl
  | [_, _, _, _, _, _, _, _], _ => by unfold argsOk; rw [signature?_of (id := "object.__init__") (n := ['_', '_', 't', 'i', 'n', 'i', '_', '_']) (o := ['t', 'c', 'e', 'j', 'b', 'o']) (by kernel_rfl) F.owner_object]; kernel_rfl
  | [_, _, _, _, _, _, _, _, _], _ => by unfold argsOk; rw [signature?_of (id := "object.__init__") (n := ['_', '_', 't', 'i', 'n', 'i', '_', '_']) (o := ['t', 'c', 'e', 'j', 'b', 'o']) (by kernel_rfl) F.owner_object]; kernel_rfl
  | [_, _, _, _, _, _, _, _, _, _], _ => by unfold argsOk; rw [signature?_of (id := "object.__init__") (n := ['_', '_', 't', 'i', 'n', 'i', '_', '_']) (o := ['t', 'c', 'e', 'j', 'b', 'o']) (by kernel_rfl) F.owner_object]; kernel_rfl
  | [_, _, _, _, _, _, _, _, _, _, _], _ => by unfold argsOk; rw [signature?_of (id := "object.__init__") (n := ['_', '_', 't', 'i', 'n', 'i', '_', '_']) (o := ['t', 'c', 'e', 'j', 'b', 'o']) (by kernel_rfl) F.owner_object]; kernel_rfl
  | [_, _, _, _, _, _, _, _, _, _, _, _], _ => by unfold argsOk; rw [signature?_of (id := "object.__init__") (n := ['_', '_', 't', 'i', 'n', 'i', '_', '_']) (o := ['t', 'c', 'e', 'j', 'b', 'o']) (by kernel_rfl) F.owner_object]; kernel_rfl
  | _ :: _ :: _ :: _ :: _ :: _ :: _ :: _ :: _ :: _ :: _ :: _ :: _ :: _, h => absurd h (by simp)
section
variable {prog : Program} {w : World} {A : Around} {E : Value → Shared → Prop} {s : Shared}
theorem call_zipN {ls : List Addr} {Q : Value → Shared → Prop} (hz : ls.length ≤ 12) (hl : ∀ l ∈ ls, ∃ items, s.heap.IsTuple l items)
    (h : ∀ h' : Heap, ZipN h' (s.heap.objs.size + ls.length + 2) (s.heap.objs.size + ls.length) (s.heap.objs.size + ls.length + 1) .none (.bool false) → TupN h' (s.heap.objs.size + ls.length) ((itsOf s.heap.objs.size ls.length).map Value.ref) →
        TupN h' (s.heap.objs.size + ls.length + 1) (ls.map fun _ => .none) → ItsAt h' (itsOf s.heap.objs.size ls.length) ls (fun _ => 0) → (∀ c o, s.heap.get? c = some o → h'.get? c = some o) →
        Q (.ref (s.heap.objs.size + ls.length + 2)) { s with heap := h' }) : wpAny (model prog w) A (call (.type "zip") (ls.map Value.ref)) Q E s :=
  callType_new F.called_zip (by decide) (typeCall_zipN _ (by simpa using hz)) (newCall_zipN _ (by simpa using hz)) (fun obj => args_initN obj _ (by simpa using hz)) F.entry_zip_new
    (meets_zipN_new ls) ⟨hl, by omega, fun h' a b c d e => ⟨⟨_, a, rfl⟩, h h' a b c d e⟩⟩
theorem callWith_star {pos p : Pos} {T : String} {e : Expr} {env : Env} {Q : Value → Shared → Prop}
    (h : wpAny (model prog w) A (eval e env) (fun v s₁ => PySem.W.StarOf (model prog w) A E v (fun vs s₂ => wpAny (model prog w) A (call (.type T) vs) Q E s₂) s₁) E s)
    (he : starEach [.Starred e p] env = [(true, eval e env)] := by rfl) : wpAny (model prog w) A (callWith pos (.type T) [] (backTo pos (starEach [.Starred e p] env)) []) Q E s := by
  rw [he]
  exact PySem.W.ks_call (P := fun _ => True) rfl (fun h _ => ⟨_, .inr (.inl rfl), PySem.W.Looks.of_pure rfl⟩) (PySem.W.ks_lone (wpAny_mono h (fun v s1 h1 => wpAny_mono h1 (fun b s2 h2 => ⟨h2.1, wpAny_mono h2.2 (fun vs s3 h3 => ⟨trivial, h3⟩) fun _ _ e => e⟩) fun _ _ e => e) fun _ _ e => e))
end
section
variable {prog : Program} {w : World} {A : Around} {E : Value → Shared → Prop} {s : Shared} {z TI TO : Addr} {f0 f1 : Value}
theorem go_zipN {tg : Expr} {T : Addr} {Q : Unit → Shared → Prop} (hf : FOk f0) (hz : ZipN s.heap z TI TO f0 f1)
    (hQ : ∀ h g0, FOk g0 → ZipN h z TI TO g0 f1 → Heap.SameBut z s.heap h → Q () { s with heap := h }) : wpAny (model prog w) A (letOwnedTupleGo tg (.ref z) (.ref T)) Q E s := by
  have same : Q () s := hQ s.heap f0 hf hz ⟨rfl, fun _ _ => rfl⟩
  have t : wpAny (model prog w) A (do
      let o ← load z
      match o.cls, o.data with
      | .type n, .fields vs =>
        if ["enumerate", "zip", "dict_itemiterator", "dict_reverseitemiterator", "odict_iterator", "itertools.zip_longest", "itertools.pairwise"].contains n && vs[0]? == some (rawInt T) then
          rule "for.unpacks-the-owned-tuple"
          updateField z 0 .none
      | _, _ => pure ()) Q E s := by
    refine wpAny_bind (wpAny_load hz ?_)
    dsimp only
    split
    · refine wpAny_bind (wpAny_rule ?_)
      show wpAny _ _ (setField (.ref z) 0 .none) Q E s
      exact wpAny_setField_rec hz (by simp) fun h' hz' hs' => hQ h' .none (.inl rfl) hz' hs'
    · exact wpAny_pure same
  unfold letOwnedTupleGo
  cases tg <;> first
    | exact wpAny_pure same
    | exact t
theorem iter_zipN {Q : Value → Shared → Prop} (hz : ZipN s.heap z TI TO f0 f1) (h : Q (.ref z) s) : wpAny (model prog w) A (pyIter (.ref z)) Q E s := by
  have hT : s.TypeIs (.ref z) "zip" := ⟨_, hz, rfl⟩
  refine wpAny_pyIter_slot hT F.slot_zip_iter (wpAny_call_entry F.slot_zip_iter hT F.entry_zip_iter ?_ (F.args_zip_iter_1 _))
  show wpAny _ _ (ret (.ref z)) _ _ s
  exact wpAny_pure ⟨_, rfl, "zip", _, hT, F.slot_zip_next.lookup, h⟩
end

/-! ### the walk -/
def tnZ (z TI TO : Addr) (its ls : List Addr) (i : Nat) (h : Heap) : Prop := ∃ f0 f1 olds, FOk f0 ∧ (f1 = .bool false ∨ f1 = .bool true) ∧ ZipN h z TI TO f0 f1 ∧ TupN h TI (its.map Value.ref) ∧ TupN h TO olds ∧ olds.length = its.length ∧ ItsAt h its ls fun _ => i
def RowV (K : PySem.W.Frag) (H : Hp) (as : List Addr) (i : Nat) (xs : List V) : Prop := xs.length = as.length ∧ ∀ (k : Nat) (a : Addr) (x : V), as[k]? = some a → xs[k]? = some x → ∃ vs, SqT K H a vs ∧ vs[i]? = some x
def ItzN (K : PySem.W.Frag) (as : List Addr) : It :=
  ⟨fun i H => ∃ xs, RowV K H as i xs,
    fun i H v H' => ∃ T xs, v = .ref T ∧ H T = none ∧ H' = upd H T (.tup xs) ∧ xs.length = as.length ∧ ∀ (k : Nat) (a : Addr) (x : V) (vs : List V), as[k]? = some a → xs[k]? = some x → SqT K H a vs → vs[i]? = some x,
    fun i H => ∃ a vs, as[0]? = some a ∧ SqT K H a vs ∧ vs.length ≤ i⟩
theorem rows_vals {X : Cx} {pins : List (Addr × Obj)} {σ : L2.St} {H : Hp} {s : Shared} (I : Inv X pins σ H s) {i : Nat} : ∀ {as : List Addr} {xs : List V}, RowV X.K H as i xs → ∃ us, Vals xs us ∧ RowAt s.heap as i us
  | [], [], _ => ⟨[], .nil, rfl, fun k l x a _ => by simp at a⟩
  | [], _ :: _, h => by
    have := h.1
    simp at this
  | _ :: _, [], h => by
    have := h.1
    simp at this
  | a :: as, x :: xs, h => by
    obtain ⟨us, r, rr⟩ := rows_vals I (as := as) (xs := xs) ⟨by simpa using h.1, fun k a x ha hx => h.2 (k + 1) a x (by simpa using ha) (by simpa using hx)⟩
    obtain ⟨vs, h1, h2⟩ := h.2 0 a x rfl rfl
    obtain ⟨its, rv, p, _⟩ := I.tuple h1
    obtain ⟨u, hu, ru⟩ := rv.get h2
    refine ⟨u :: us, .cons ru r, by simp [rr.1], fun k l y hl hy => ?_⟩
    cases k with
    | zero =>
      simp at hl hy
      subst hl hy
      exact ⟨its.toArray, p, by simpa using hu⟩
    | succ k => exact rr.2 k l y (by simpa using hl) (by simpa using hy)
theorem turn_zipN {P : Program} {w : World} {K : PySem.W.Frag} {tg : Expr} {z TI TO : Addr} {its as : List Addr} (D : ZApart z TI TO its as) (hne : its ≠ []) (hsz : its.length ≤ 1000) :
    Turn P w K tg (ItzN K as) (z :: TI :: TO :: its) z (tnZ z TI TO its as) where
  mem := by simp
  obj := fun i h ⟨f0, f1, olds, hf, hf1, hz, hTI, hTO, ho, hi⟩ c hc => by
    rcases List.mem_cons.mp hc with rfl | hc
    · exact ⟨_, hz, fun v q => nomatch q⟩
    rcases List.mem_cons.mp hc with rfl | hc
    · exact ⟨_, hTI, fun v q => nomatch q⟩
    rcases List.mem_cons.mp hc with rfl | hc
    · exact ⟨_, hTO, fun v q => nomatch q⟩
    obtain ⟨k, hk⟩ := List.getElem?_of_mem hc
    have hk2 : k < as.length := by
      have := (List.getElem?_eq_some_iff.mp hk).1
      have := D.len
      omega
    obtain ⟨o, e, _, d⟩ := hi k c as[k] hk (List.getElem?_eq_getElem hk2)
    exact ⟨o, e, fun v q => by rw [d] at q; cases q⟩
  keep := fun i h h' ⟨f0, f1, olds, hf, hf1, hz, hTI, hTO, ho, hi⟩ k =>
    ⟨f0, f1, olds, hf, hf1, k z (by simp) _ hz, k TI (by simp) _ hTI, k TO (by simp) _ hTO, ho, fun m it l a b => (hi m it l a b).at fun o q => k it (List.mem_cons_of_mem _ (List.mem_cons_of_mem _ (List.mem_cons_of_mem _ (List.mem_of_getElem? a)))) o q⟩
  item := by
    intro X hP hw hK hc i pins s σ H E I hfp st hg
    subst hP hw hK
    obtain ⟨f0, f1, olds, hf, hf1, hz, hTI, hTO, ho, hi⟩ := st
    obtain ⟨xs, hx⟩ := hg
    obtain ⟨us, rv, hr⟩ := rows_vals I hx
    have hzl : z < s.heap.objs.size := Heap.lt_size hz
    refine pyNext_zipN_item D hne hsz hf hf1 hz hTI hTO ho hi hr fun h' g0 g1 news a1 a2 a3 a4 a5 a6 a7 a8 hk => ?_
    refine ⟨_, rfl, go_zipN (s := { s with heap := h' }) a1 a3 fun h'' e0 b1 b2 sb => ?_⟩
    have ch : ∀ {c}, c ∉ z :: TI :: TO :: its → c ≠ z ∧ c ≠ TO ∧ c ∉ its := fun hb => ⟨fun q => hb (by simp [q]), fun q => hb (by simp [q]), fun q => hb (by simp [q])⟩
    have hT2 : TupN h'' s.heap.objs.size us := (sb.2 _ (Nat.ne_of_gt hzl)).trans a7
    have hxl : xs.length ≤ 1000 := by
      rw [hx.1, ← D.len]
      exact hsz
    have new : ObjOk X.prog X.w (upd H s.heap.objs.size (.tup xs)) h'' s.heap.objs.size (.tup xs) := ⟨by rw [sizeLine_eq]; omega, us, rv, ⟨_, hT2, rfl, _, rfl⟩⟩
    have I1 : Inv X pins σ (upd H s.heap.objs.size (.tup xs)) { s with heap := h'' } :=
      I.turnedNew (t' := s.toks) (ch := z :: TI :: TO :: its) (fun c o hb q => by
        obtain ⟨c1, c2, c3⟩ := ch hb
        exact (sb.2 c c1).trans (hk c o c1 c2 c3 q)) hfp (Nat.le_refl _) new
    refine ⟨.ref s.heap.objs.size, _, I1, rfl, ⟨_, xs, rfl, I.hok.fresh (Nat.le_refl _), rfl, hx.1, fun k a x vs q1 q2 q3 => by
      obtain ⟨vs', r1, r2⟩ := hx.2 k a x q1 q2
      rw [I.tuple_inj q3 r1]
      exact r2⟩, ⟨e0, g1, news, b1, a2, b2, ?_, ?_, a5, ?_⟩, fun c hcm => ?_⟩
    · exact (sb.2 _ D.TIz).trans (hk _ _ D.TIz D.TITO D.iTI hTI)
    · exact (sb.2 _ D.TOz).trans a4
    · exact fun k it l a b => (a6 k it l a b).at fun o q => (sb.2 _ (ne_mem D.iz (List.mem_of_getElem? a))).trans q
    · have hn := (hfp c hcm).1
      have hlt : c ≠ s.heap.objs.size := by
        rcases List.mem_cons.mp hcm with rfl | hcm
        · exact Nat.ne_of_lt (Heap.lt_size hz)
        rcases List.mem_cons.mp hcm with rfl | hcm
        · exact Nat.ne_of_lt (Heap.lt_size hTI)
        rcases List.mem_cons.mp hcm with rfl | hcm
        · exact Nat.ne_of_lt (Heap.lt_size hTO)
        obtain ⟨k, hk⟩ := List.getElem?_of_mem hcm
        have hk2 : k < as.length := by
          have := (List.getElem?_eq_some_iff.mp hk).1
          have := D.len
          omega
        obtain ⟨o, e, _⟩ := hi k c as[k] hk (List.getElem?_eq_getElem hk2)
        exact Nat.ne_of_lt (Heap.lt_size e)
      rw [upd_ne hlt]
      exact hn
  done := by
    intro X hP hw hK hc i pins s σ H E I hfp st hg
    subst hP hw hK
    obtain ⟨f0, f1, olds, hf, hf1, hz, hTI, hTO, ho, hi⟩ := st
    obtain ⟨a, vs, ha, hs, hle⟩ := hg
    obtain ⟨itm, rv, p, _⟩ := I.tuple hs
    have hl := rv.length
    refine pyNext_zipN_end (I.ok.hd hc) D hf hf1 hz hTI hi ha p (by simp; omega) fun h' hk => ⟨rfl, I.turnedL (t' := s.toks) (ch := z :: TI :: TO :: its) (fun c o hb q =>
      hk c o (fun q' => hb (by simp [q'])) (fun q' => hb (by simp [q'])) (fun q' => hb (by simp [q'])) q) hfp⟩
  self := fun A i s Q E ⟨f0, f1, olds, hf, hf1, hz, _⟩ h => iter_zipN hz h

/-! ### zip(*e), zip(e1, .., en) over tuples -/
section
variable {X : Cx} {tg : Expr}
def kZip (K : PySem.W.Frag) (xs : List V) (H : Hp) (R : It → Hp → Prop) : Prop := ∃ as : List Addr, xs = as.map V.ref ∧ as ≠ [] ∧ as.length ≤ 12 ∧ (∀ a ∈ as, ∃ vs, SqT K H a vs) ∧ R (ItzN K as) H
theorem refs_vals : ∀ {as : List Addr} {us : List Value}, Vals (as.map V.ref) us → us = as.map Value.ref
  | [], _, .nil => rfl
  | a :: as, _, .cons r t => by
    cases r
    rw [refs_vals t]
    rfl
theorem zip_run {pins : List (Addr × Obj)} {s : Shared} {σ : L2.St} {H : Hp} {R : It → Hp → Prop} {xs : List V} {us : List Value} (I : Inv X pins σ H s) (r : Vals xs us) (h : kZip X.K xs H R) :
    wpAny (model X.prog X.w) X.A (call (.type "zip") us) (fun v s1 => wpAny (model X.prog X.w) X.A (pyIter v) (PIE X pins σ tg R) X.xe s1) X.xe s := by
  obtain ⟨as, rfl, hne, hn, hl, q⟩ := h
  rw [refs_vals r]
  have ht : ∀ a ∈ as, ∃ items, s.heap.IsTuple a items := fun a ha => by
    obtain ⟨vs, hv⟩ := hl a ha
    obtain ⟨its, _, p, _⟩ := I.tuple hv
    exact ⟨_, p⟩
  have hlt : ∀ a ∈ as, a < s.heap.objs.size := fun a ha => by
    obtain ⟨items, o, e, _⟩ := ht a ha
    exact Heap.lt_size e
  refine call_zipN hn ht fun h' a1 a2 a3 a4 hk => ?_
  refine iter_zipN a1 ?_
  have I2 : Inv X pins σ H { s with heap := h' } := I.kept (t' := s.toks) hk
  have hil : (itsOf s.heap.objs.size as.length).length = as.length := itsOf_len _ _
  have D : ZApart (s.heap.objs.size + as.length + 2) (s.heap.objs.size + as.length) (s.heap.objs.size + as.length + 1) (itsOf s.heap.objs.size as.length) as := by
    refine ⟨itsOf_nd _ _, hil, Nat.ne_of_lt (Nat.lt_add_of_pos_right (by decide)), Nat.ne_of_lt (Nat.lt_succ_self _), Nat.ne_of_lt (Nat.lt_succ_self _), fun q => ?_, fun q => ?_, fun q => ?_, fun q => ?_, fun q => ?_, fun i hi q => ?_⟩
    · exact absurd (itsOf_mem q).2 (Nat.not_lt_of_le (Nat.le_add_right _ _))
    · exact absurd (itsOf_mem q).2 (Nat.lt_irrefl _)
    · exact absurd (itsOf_mem q).2 (Nat.not_lt_of_le (Nat.le_add_right _ _))
    · exact absurd (hlt _ q) (Nat.not_lt_of_le (Nat.le_trans (Nat.le_add_right _ _) (Nat.le_add_right _ _)))
    · exact absurd (hlt _ q) (Nat.not_lt_of_le (Nat.le_trans (Nat.le_add_right _ _) (Nat.le_add_right _ _)))
    · exact absurd (hlt _ q) (Nat.not_lt_of_le (itsOf_mem hi).1)
  have hne' : itsOf s.heap.objs.size as.length ≠ [] := fun q => hne (List.eq_nil_of_length_eq_zero (by rw [← hil, q]; rfl))
  refine ⟨_, _, tnZ (s.heap.objs.size + as.length + 2) (s.heap.objs.size + as.length) (s.heap.objs.size + as.length + 1) (itsOf s.heap.objs.size as.length) as, ItzN X.K as, H, rfl, I2, turn_zipN D hne' (by rw [hil]; omega),
    ⟨.none, .bool false, _, .inl rfl, .inl rfl, a1, a2, a3, by rw [hil, List.length_map], a4⟩, fun c hc => ?_, q⟩
  have hle : s.heap.objs.size ≤ c := by
    rcases List.mem_cons.mp hc with rfl | hc
    · exact Nat.le_trans (Nat.le_add_right _ _) (Nat.le_add_right _ _)
    rcases List.mem_cons.mp hc with rfl | hc
    · exact Nat.le_add_right _ _
    rcases List.mem_cons.mp hc with rfl | hc
    · exact Nat.le_trans (Nat.le_add_right _ _) (Nat.le_add_right _ _)
    exact (itsOf_mem hc).1
  have hf := I.fpOk hle (I.hok.fresh hle)
  exact hf
def iZipS0 (K : PySem.W.Frag) (te : TE) : TI := fun σ H R => te σ H fun x H1 => ∃ a xs, x = .ref a ∧ SqT K H1 a xs ∧ kZip K xs H1 R
theorem pi_zipS {e : Expr} {te : TE} {p sp pos : Pos} (hg : Gl X "zip") (hm : X.mg "zip" = none) (he : PE X e te) (hst : starEach [.Starred e sp] X.env = [(true, eval e X.env)] := by rfl) :
    PI X tg (.Call (.Name "zip" p) [.Starred e sp] [] pos) (iZipS0 X.K te) := by
  refine ⟨fun pins s σ H R I h => ?_⟩
  refine Call_ (ld_blt I hg hm PyProof.Rows.boot_zip (callWith_star (thn (he.run pins s σ H _ I h) fun v s1 ⟨y, H1, I1, ry, a, xs, ey, hxs, q⟩ => ?_) hst))
  subst ey
  obtain rfl : v = Value.ref a := ry
  exact StX.star_any I1 (.inl hxs) fun us s2 I2 rv => zip_run I2 rv q
def iZipM0 (K : PySem.W.Frag) (ta : TA) : TI := fun σ H R => ta σ H fun xs H1 => kZip K xs H1 R
theorem pi_zipM {e : Expr} {es : List Expr} {ta : TA} {p pos : Pos} (hg : Gl X "zip") (hm : X.mg "zip" = none) (ha : PA X (e :: es) ta) (hs : starEach (e :: es) X.env = (false, eval e X.env) :: starEach es X.env) (hpl : (backTo pos (starEach es X.env)).any (·.1) = false) :
    PI X tg (.Call (.Name "zip" p) (e :: es) [] pos) (iZipM0 X.K ta) := by
  refine ⟨fun pins s σ H R I h => ?_⟩
  exact Call_ (ld_blt I hg hm PyProof.Rows.boot_zip (PyProof.Rows.callWith_type1 (thn (ha.run pos pins s σ H _ I h) fun us s1 ⟨vs, H1, I1, r1, q1⟩ => zip_run I1 r1 q1) hs hpl))

/-! the mirror -/
def rowsW : List W → Option (List (List W))
  | [] => some []
  | .tup r :: rs => match rowsW rs with
    | some q => some (r :: q)
    | none => none
  | _ => none
def colAt (rs : List (List W)) (i : Nat) : List W := rs.map fun r => r.getD i .non
def colsFrom (rs : List (List W)) : Nat → Nat → List W
  | _, 0 => []
  | i, n + 1 => .tup (colAt rs i) :: colsFrom rs (i + 1) n
theorem colsFrom_get (rs : List (List W)) : ∀ (n s i : Nat), (colsFrom rs s n)[i]? = if i < n then some (.tup (colAt rs (s + i))) else none
  | 0, _, _ => by simp [colsFrom]
  | n + 1, s, 0 => by simp [colsFrom]
  | n + 1, s, i + 1 => by
    show (colsFrom rs (s + 1) n)[i]? = _
    rw [colsFrom_get rs n (s + 1) i, show s + 1 + i = s + (i + 1) by omega]
    by_cases h : i < n
    · rw [if_pos h, if_pos (by omega)]
    · rw [if_neg h, if_neg (by omega)]
def zipSrc (ws : List W) : Option Src := match rowsW ws with
  | some (r :: rs) => if rs.length ≤ 11 ∧ (rs.all fun q => q.length == r.length) = true then some (.fix (colsFrom (r :: rs) 0 r.length)) else none
  | _ => none
inductive RowsR (K : PySem.W.Frag) (μ : Nat → Addr) (L : Nat) (H : Hp) : List Addr → List (List W) → Prop
  | nil : RowsR K μ L H [] []
  | cons {a : Addr} {vs : List V} {r : List W} {as : List Addr} {rs : List (List W)} : Tp K H a vs → Reps K μ L H vs r → RowsR K μ L H as rs → RowsR K μ L H (a :: as) (r :: rs)
variable {K : PySem.W.Frag} {μ μ' : Nat → Addr} {L L' : Nat} {H H' : Hp}
theorem RowsR.nxw (n : Nxw K μ L H μ' L' H') : ∀ {as : List Addr} {rs : List (List W)}, RowsR K μ L H as rs → RowsR K μ' L' H' as rs
  | _, _, .nil => .nil
  | _, _, .cons t r q => .cons (n.tp _ _ t) (r.nxw n) (q.nxw n)
theorem RowsR.of : ∀ {ws : List W} {rs : List (List W)} {vs : List V}, Reps K μ L H vs ws → rowsW ws = some rs → ∃ as, vs = as.map V.ref ∧ RowsR K μ L H as rs
  | [], rs, vs, r, h => by
    cases r
    cases h
    exact ⟨[], rfl, .nil⟩
  | w :: ws, rs, vs, r, h => by
    cases r with
    | cons r1 r2 =>
      cases w with
      | tup xs =>
        simp only [rowsW] at h
        split at h
        · rename_i q hq
          cases h
          obtain ⟨a, us, rfl, t, rr⟩ := rep_tup r1
          obtain ⟨as, rfl, z⟩ := RowsR.of r2 hq
          exact ⟨a :: as, rfl, .cons t rr z⟩
        · cases h
      | _ => cases h
theorem RowsR.len : ∀ {as : List Addr} {rs : List (List W)}, RowsR K μ L H as rs → as.length = rs.length
  | _, _, .nil => rfl
  | _, _, .cons _ _ q => by simp [q.len]
theorem RowsR.sq : ∀ {as : List Addr} {rs : List (List W)}, RowsR K μ L H as rs → ∀ a ∈ as, ∃ vs, SqT K H a vs
  | _, _, .nil, a, h => by cases h
  | _, _, .cons t _ q, a, h => by
    rcases List.mem_cons.mp h with rfl | h
    · exact ⟨_, t.sq⟩
    · exact q.sq a h
theorem RowsR.go {i : Nat} : ∀ {as : List Addr} {rs : List (List W)}, RowsR K μ L H as rs → (∀ r ∈ rs, i < r.length) → ∃ xs, RowV K H as i xs
  | _, _, .nil, _ => ⟨[], rfl, fun k a x h _ => by simp at h⟩
  | _, _, .cons (vs := vs) (r := r) t rr q, h => by
    obtain ⟨xs, h1, h2⟩ := q.go fun r' hr => h r' (List.mem_cons_of_mem _ hr)
    have hi : i < vs.length := by rw [rr.length]; exact h r List.mem_cons_self
    refine ⟨vs[i] :: xs, by simp [h1], fun k a x ha hx => ?_⟩
    cases k with
    | zero =>
      simp at ha hx
      subst ha hx
      exact ⟨vs, t.sq, List.getElem?_eq_getElem hi⟩
    | succ k => exact h2 k a x (by simpa using ha) (by simpa using hx)
theorem RowsR.col {i : Nat} : ∀ {as : List Addr} {rs : List (List W)} {xs : List V}, RowsR K μ L H as rs → (∀ r ∈ rs, i < r.length) → xs.length = as.length →
    (∀ (k : Nat) (a : Addr) (x : V) (vs : List V), as[k]? = some a → xs[k]? = some x → SqT K H a vs → vs[i]? = some x) → Reps K μ L H xs (colAt rs i)
  | _, _, [], .nil, _, _, _ => .nil
  | _, _, _ :: _, .nil, _, hl, _ => by simp at hl
  | _, _, [], .cons _ _ _, _, hl, _ => by simp at hl
  | _, _, x :: xs, .cons (vs := vs) (r := r) t rr q, h, hl, hx => by
    refine .cons ?_ (q.col (fun r' hr => h r' (List.mem_cons_of_mem _ hr)) (by simpa using hl) fun k a y us h1 h2 h3 => hx (k + 1) a y us (by simpa using h1) (by simpa using h2) h3)
    have h1 := hx 0 _ x vs rfl rfl t.sq
    obtain ⟨w, hw, rw_⟩ := rr.getV h1
    have : r.getD i .non = w := by rw [List.getD_eq_getElem?_getD, hw]; rfl
    show Rep K μ L H x (r.getD i .non)
    rw [this]
    exact rw_
theorem src_zip {st : Sto} {as : List Addr} {r : List W} {rs : List (List W)} (R : RowsR K μ st.length H as (r :: rs)) (he : (rs.all fun q => q.length == r.length) = true) : SrcOk K (ItzN K as) (.fix (colsFrom (r :: rs) 0 r.length)) μ st.length H := fun μ' st' H' N S i => by
  have R' := R.nxw N
  have hall : ∀ q ∈ r :: rs, q.length = r.length := fun q hq => by
    rcases List.mem_cons.mp hq with rfl | hq
    · rfl
    · exact by simpa using List.all_eq_true.mp he q hq
  show match (colsFrom (r :: rs) 0 r.length)[i]? with
    | none => (ItzN K as).stop i H'
    | some w => _
  rw [colsFrom_get, Nat.zero_add]
  by_cases hi : i < r.length
  · rw [if_pos hi]
    have hlt : ∀ q ∈ r :: rs, i < q.length := fun q hq => by rw [hall q hq]; exact hi
    refine ⟨R'.go hlt, fun x H'' ⟨T, xs, e1, hT, e2, hl, hx⟩ => ?_⟩
    subst e1 e2
    have n : Nxt K μ' st'.length H' μ' st'.length (upd H' T (.tup xs)) := Nxt.tup hT
    exact ⟨n, S.tup hT, .tup (.inl upd_same) ((R'.col hlt hl hx).nxt n)⟩
  · rw [if_neg hi]
    cases R' with
    | cons t rr q => exact ⟨_, _, rfl, t.sq, by rw [rr.length]; omega⟩
def iZipS (m : EX) : IX := fun env st => (m env st).bind fun w s1 => match w with
  | .tup ws => match zipSrc ws with
    | some src => .ok src s1
    | none => .err
  | _ => .err
def iZipM (n : AX) : IX := fun env st => (n env st).bind fun ws s1 => match zipSrc ws with
  | some src => .ok src s1
  | none => .err
theorem zipSrc_ok {st : Sto} {ws : List W} {src : Src} {vs : List V} (r : Reps K μ st.length H vs ws) (h : zipSrc ws = some src) : ∃ as : List Addr, vs = as.map V.ref ∧ as ≠ [] ∧ as.length ≤ 12 ∧ (∀ a ∈ as, ∃ vs, SqT K H a vs) ∧ SrcOk K (ItzN K as) src μ st.length H := by
  unfold zipSrc at h
  split at h
  · rename_i r0 rs0 hq
    split at h
    · rename_i hc
      cases h
      obtain ⟨as, rfl, R⟩ := RowsR.of r hq
      have hl := R.len
      refine ⟨as, rfl, fun e => by subst e; simp at hl, by simp at hl; omega, R.sq, src_zip R hc.2⟩
    · cases h
  · cases h
theorem ri_zipS {N : List Str} {sc : Scope} (hX : In X N sc) {e : Expr} {m : EX} {p sp pos : Pos} (hg : glB sc "zip" = true) (hm : X.mg "zip" = none) (he : RE X e m) (hst : starEach [.Starred e sp] X.env = [(true, eval e X.env)] := by rfl) :
    RI X tg (.Call (.Name "zip" p) [.Starred e sp] [] pos) (iZipS m) := pi_imp (pi_zipS (hX.gl hg) hm he hst) fun σ H R0 ⟨μ, env, st, src, st', S, E, h, k⟩ => by
  obtain ⟨w, s1, h1, h2⟩ := R.bind_ok h
  refine ⟨μ, env, st, w, s1, S, E, h1, fun μ1 H1 v N1 S1 r1 => ?_⟩
  cases w with
  | tup ws =>
    simp only [] at h2
    split at h2
    · rename_i src' hs
      cases h2
      obtain ⟨a, vs, rfl, t, rr⟩ := rep_tup r1
      obtain ⟨as, q1, q2, q3, q4, q5⟩ := zipSrc_ok rr hs
      exact ⟨a, vs, rfl, t.sq, as, q1, q2, q3, q4, k _ _ _ N1 S1 q5⟩
    · cases h2
  | _ => cases h2
theorem ri_zipM {N : List Str} {sc : Scope} (hX : In X N sc) {e : Expr} {es : List Expr} {n : AX} {p pos : Pos} (hg : glB sc "zip" = true) (hm : X.mg "zip" = none) (ha : RA X (e :: es) n)
    (hs : starEach (e :: es) X.env = (false, eval e X.env) :: starEach es X.env := by rfl) (hpl : (backTo pos (starEach es X.env)).any (·.1) = false := by rfl) :
    RI X tg (.Call (.Name "zip" p) (e :: es) [] pos) (iZipM n) := pi_imp (pi_zipM (hX.gl hg) hm ha hs hpl) fun σ H R0 ⟨μ, env, st, src, st', S, E, h, k⟩ => by
  obtain ⟨ws, s1, h1, h2⟩ := R.bind_ok h
  refine ⟨μ, env, st, ws, s1, S, E, h1, fun μ1 H1 vs N1 S1 r1 => ?_⟩
  split at h2
  · rename_i src' hs
    cases h2
    obtain ⟨as, q1, q2, q3, q4, q5⟩ := zipSrc_ok r1 hs
    exact ⟨as, q1, q2, q3, q4, k _ _ _ N1 S1 q5⟩
  · cases h2
end
end Rx

/-! RxP: xs.count(k), whole numbers. -/
namespace Rx
open PySem PySem.Spec PyProof.Rows L2
section
variable {X : Cx} {a b : Expr}
def mCount : W → FX := fun x ws st => match x, ws with
  | .ls n, [.int k] => match st[n]? with
    | some (.lst xs) => match intsW xs with
      | some ns => .ok (.int (ns.count k : Nat)) st
      | none => .err
    | none => .err
  | _, _ => .err
theorem m_count : MtR X "list.count" (lM X.K mCount) := mt_imp mt_lcount fun x vs H Q ⟨μ, st, a, ws, w, st', S, ra, rs, e, k⟩ => by
  cases a with
  | ls n =>
    obtain ⟨rfl, hn⟩ := rep_ls ra
    match ws, rs, e with
    | [.int i], .cons r .nil, e =>
      cases r
      simp only [mCount] at e
      split at e
      · rename_i xs e1
        split at e
        · rename_i ns h2
          cases e
          have := intsW_eq h2; subst this
          obtain ⟨us, q1, r1⟩ := S.lstAt e1
          have := r1.ofInts; subst this
          exact ⟨_, ns, i, rfl, rfl, .inl (.inl q1), k.here S (.int _)⟩
        · cases e
      · cases e
  | _ => cases e
theorem mCount_ls {x : W} {ws : List W} {st : Sto} {w : W} {st' : Sto} (h : mCount x ws st = .ok w st') : ∃ k, x = .ls k := by
  cases x with
  | ls k => exact ⟨k, rfl⟩
  | _ => cases h
variable {es : List Expr} {apos cpos : Pos}
theorem re_count {m : EX} {n : AX} (ho : RE X a m) (ha : RA X (b :: es) n)
    (hb : attributeBase a "count" X.env (eval a X.env) = eval a X.env := by rfl)
    (hf : ((backTo cpos (starEach (b :: es) X.env)).all (fun x => !x.1) && (backToKw cpos (keywordEach [] X.env)).all (fun x => x.1.isSome)
      && decide ((b :: es).length + ([] : List Keyword).length + (if ([] : List Keyword).isEmpty then 0 else 1) < 30)) = true := by rfl)
    (hl : (apos.endLine == cpos.line) = true := by rfl) (hs : starEach (b :: es) X.env = (false, eval b X.env) :: starEach es X.env := by rfl) (hp : (backTo cpos (starEach es X.env)).any (·.1) = false := by rfl) :
    RE X (.Call (.Attribute a "count" apos) (b :: es) [] cpos) (eMth mCount m n) :=
  pe_imp (pe_bm PySem.F.plainAttrs_list PySem.F.slot_list_count PySem.F.type_list_count m_count ho ha hb hf hl hs hp) fun σ H Q h => mth_run h fun _ _ _ _ _ => mCount_ls
end

/-! ### list(range(i, j, -1)) -/
section
variable {X : Cx} {a b c : Expr} {N : List Str} {sc : Scope} {p p2 pos pos2 : Pos}
def tLstRg3 (ta : TA) : TE := fun σ H Q => ta σ H fun vs H1 => ∃ i j : Int, ∃ n : Nat, vs = [.int i, .int j, .int (-1)] ∧ RgC i j (-1) n ∧ n ≤ 1000000 ∧ ∀ q, H1 q = none → Q (.ref q) (upd H1 q (.lst (rgVd i n)))
theorem pe_lstRg3 {ta : TA} (hc : X.calm = true) (hg : Gl X "list") (hm : X.mg "list" = none) (hg2 : Gl X "range") (hm2 : X.mg "range" = none) (ha : PA X [a, b, c] ta)
    (hs : starEach [a, b, c] X.env = (false, eval a X.env) :: starEach [b, c] X.env) (hpl : (backTo pos2 (starEach [b, c] X.env)).any (·.1) = false)
    (na : starEach [.Call (.Name "range" p2) [a, b, c] [] pos2] X.env = (false, eval (.Call (.Name "range" p2) [a, b, c] [] pos2) X.env) :: starEach [] X.env) :
    PE X (.Call (.Name "list" p) [.Call (.Name "range" p2) [a, b, c] [] pos2] [] pos) (tLstRg3 ta) := by
  refine ⟨fun pins s σ H Q I h => ?_⟩
  refine Call_ (ld_blt I hg hm boot_list (PyProof.Rows.callWith_type1 (args_cons ?_ na) na))
  refine Call_ (ld_blt I hg2 hm2 boot_range (PyProof.Rows.callWith_type1 (thn (ha.run pos2 pins s σ H _ I h) fun us s1 ⟨vs, H1, I1, r1, q1⟩ => ?_) hs hpl))
  obtain ⟨i, j, n, e, ⟨c0, c1, c2, c3⟩, hn, q⟩ := q1
  subst e
  cases r1 with
  | cons r rr =>
    cases rr with
    | cons r' rr =>
      cases rr with
      | cons r'' rr =>
        cases rr
        obtain ⟨t, rfl⟩ := r
        obtain ⟨t', rfl⟩ := r'
        obtain ⟨t'', rfl⟩ := r''
        refine call_range_3 c0 ?_ (.inl (PyProof.noPylong_small c1))
        refine args_nil ?_
        have I2 : Inv X pins σ H1 { s1 with heap := s1.heap.push { cls := .type "range", data := .fields #[.int i t, .int j t', .int (-1) t''] } } := I1.kept (t' := s1.toks) fun b o e => Heap.get?_push_of_some _ e
        refine call_list_range (n := n) (I2.ok.hd hc) (IsRange.new ..) c2 c3 (by omega) fun h' tk acc c' hk e' hi => ?_
        have hv : Vals (rgVd i n) acc.toList := by
          have e : acc.toList.length = n := by rw [Array.length_toList]; exact hi.1
          unfold rgVd
          rw [← e]
          refine vals_of_get acc.toList _ fun j u hj => ?_
          obtain ⟨t, rfl⟩ := hi.2 j u (by rw [← hj, Array.getElem?_toList])
          exact ⟨t, rfl⟩
        refine ⟨.ref _, upd H1 _ (.lst (rgVd i n)), I2.laid (t' := tk) hk (Nat.le_refl _) (show ObjOk X.prog X.w _ _ _ (.lst (rgVd i n)) from ⟨?_, acc.toList, c', hv, ?_⟩), rfl, q _ (I2.hok.fresh (Nat.le_refl _))⟩
        · unfold rgVd
          rw [List.length_map, List.length_range, sizeLine_eq]
          omega
        · rw [Array.toArray_toList]
          exact e'
def eLstRg3 (n : AX) : EX := fun env st => (n env st).bind fun ws s1 => match ws with
  | [.int i, .int j, .int (-1)] => if rngOk i = true ∧ rngOk j = true ∧ (i - j).toNat ≤ 1000000 then .ok (.ls s1.length) (s1 ++ [.lst (rngW i (-1) (i - j).toNat)]) else .err
  | _ => .err
theorem re_listRg3 (hX : In X N sc) {m n o : EX} (hg : glB sc "list" = true) (hg2 : glB sc "range" = true) (hm : X.mg "list" = none) (hm2 : X.mg "range" = none) (ha : RE X a m) (hb : RE X b n) (hc : RE X c o)
    (na : starEach [a, b, c] X.env = (false, eval a X.env) :: starEach [b, c] X.env := by rfl) (nb : starEach [.Call (.Name "range" p2) [a, b, c] [] pos2] X.env = (false, eval (.Call (.Name "range" p2) [a, b, c] [] pos2) X.env) :: starEach [] X.env := by rfl)
    (hp : (backTo pos2 (starEach [b, c] X.env)).any (·.1) = false := by rfl) (hs : Pl a := by exact fun _ _ => rfl) (hs2 : Pl b := by exact fun _ _ => rfl) (hs3 : Pl c := by exact fun _ _ => rfl) :
    RE X (.Call (.Name "list" p) [.Call (.Name "range" p2) [a, b, c] [] pos2] [] pos) (eLstRg3 (aCons m (aCons n (aCons o aNil)))) :=
  pe_imp (pe_lstRg3 hX.calm (hX.gl hg) hm (hX.gl hg2) hm2 (ra_cons ha (ra_cons hb (ra_cons hc ra_nil hs3) hs2) hs) na hp nb) fun σ H Q ⟨μ, env, st, w, st', S, E, h, k⟩ => by
    obtain ⟨ws, s1, h1, h2⟩ := R.bind_ok h
    obtain ⟨w, u, z, rfl⟩ := cons3 h1
    refine ⟨μ, env, st, _, s1, S, E, h1, fun μ1 H1 vs N1 S1 r1 => ?_⟩
    cases w with
    | int i =>
      cases u with
      | int j =>
        cases z with
        | int c0 =>
          have := args3 r1; subst this
          split at h2
          · rename_i i' j' heq
            cases heq
            split at h2
            · rename_i hj
              cases h2
              obtain ⟨q1, q2⟩ := rngOk_ok hj.1
              obtain ⟨q3, q4⟩ := rngOk_ok hj.2.1
              exact ⟨i, j, _, rfl, RgC.neg q1 q2 q3 q4, hj.2.2, fun q hq => (k.mono N1).new S1 (by rw [rgVd_eq]; exact reps_rng _ _ _) hq⟩
            · cases h2
          · cases h2
        | _ => cases h2
      | _ => cases h2
    | _ => cases h2
end

/-- y = [.. for ..], y a cell -/
theorem rs_setK {X : Cx} {e : Expr} {pos : Pos} {N : List Str} {sc : Scope} (hX : In X N sc) {i : Nat} {x : Str} {m : EX} {pos' : Pos} (h : Lo X i x) (he : RE X e m) (hs : ∀ env : Env, env.scope = sc → swapsWith e (some (.Name x pos')) pos.line env = pure false) :
    RS X (.Assign [.Name x pos'] e pos) (sPat (.nm i) m) := rs_set h he (hs X.env hX.s)
end Rx

/-! RxQ: <, <=, >, >= of data (texts, tuples, nested), range with any step. -/
namespace Rx
open PySem PySem.Spec PyProof.Rows L2
section
variable {X : Cx}
/-- whole numbers at once, other data by their tokens -/
def fCmpD (g : Int → Int → Bool) (f : PyData → PyData → Bool) : W → W → Sto → R W
  | .int i, .int j, st => .ok (.bl (g i j)) st
  | a, b, st => match dat st deep a, dat st deep b with
    | some .none, _ => .err
    | some d, some e => cond (PySem.W.alike d e) (.ok (.bl (f d e)) st) .err
    | _, _ => .err
def ltD (d e : PyData) : Bool := PySem.W.dataLt d e
def gtD (d e : PyData) : Bool := PySem.W.dataLt e d
def leD (d e : PyData) : Bool := !PySem.W.dataLt e d
def geD (d e : PyData) : Bool := !PySem.W.dataLt d e
def rCmpD (K : PySem.W.Frag) (f : PyData → PyData → Bool) : R2 := fun x y H Q => ∃ d e, Dp K H x d ∧ Dp K H y e ∧ PySem.W.alike d e = true ∧ d ≠ .none ∧ d.depth ≤ 60 ∧ Q (.bl (f d e)) H
theorem fCmpD_run {g : Int → Int → Bool} {f : PyData → PyData → Bool} {K : PySem.W.Frag} {x y : V} {H : Hp} {Q : VK} (hg : ∀ i j, g i j = f (.int i) (.int j)) (h : lO K (fCmpD g f) x y H Q) : rCmpD K f x y H Q := by
  obtain ⟨μ, st, a, b, w, st', S, ra, rb, e, k⟩ := h
  have gen : (match dat st deep a, dat st deep b with
    | some .none, _ => R.err
    | some d, some e => cond (PySem.W.alike d e) (R.ok (W.bl (f d e)) st) .err
    | _, _ => .err) = .ok w st' → rCmpD K f x y H Q := by
    intro e
    split at e
    · cases e
    · rename_i d1 d2 hn h1 h2
      cases ha : PySem.W.alike d1 d2 with
      | true =>
        rw [ha] at e
        cases e
        refine ⟨d1, d2, dat_dp S _ ra h1, dat_dp S _ rb h2, ha, hn, ?_, k.here S (.bl _)⟩
        have h3 := (dat_sh _ h1).2
        have h4 : deep = 12 := rfl
        omega
      | false =>
        rw [ha] at e
        cases e
    · cases e
  cases a with
  | int i =>
    cases b with
    | int j =>
      have := rep_int ra; subst this
      have := rep_int rb; subst this
      cases e
      exact ⟨.int i, .int j, .int i, .int j, (by rw [PySem.W.alike]), (by intro q; cases q), (by simp [PyData.depth]), (by rw [← hg]; exact k.here S (.bl _))⟩
    | _ => exact gen e
  | _ => exact gen e
theorem lex_ints (i j : Int) : PySem.W.dataLt (.int i) (.int j) = decide (i < j) := by
  show PyProof.Rows.lexLt PyProof.Rows.itemOrd [.inl i] [.inl j] = _
  show (decide (i < j) || (!decide (j < i) && false)) = _
  simp
theorem g_lt (i j : Int) : ltI i j = ltD (.int i) (.int j) := by
  unfold ltD
  rw [lex_ints]
  rfl
theorem g_gt (i j : Int) : gtI i j = gtD (.int i) (.int j) := by
  unfold gtD
  rw [lex_ints]
  rfl
theorem g_le (i j : Int) : leI i j = leD (.int i) (.int j) := by
  unfold leD
  rw [lex_ints, Bool.eq_iff_iff]
  simp [leI]
theorem g_ge (i j : Int) : geI i j = geD (.int i) (.int j) := by
  unfold geD
  rw [lex_ints, Bool.eq_iff_iff]
  simp [geI]
theorem room_cmp {A : Around} {d e : PyData} (h : d.depth ≤ 60) (hu : A.units + 65 < cLine) : A.units + min d.depth e.depth < cLine := by
  have : min d.depth e.depth ≤ d.depth := Nat.min_le_left _ _
  omega
theorem op_ltD (hu : X.A.units + 65 < cLine) : OpR X (compareOp .Lt) (rCmpD X.K ltD) := by
  intro pins s σ H x y v u Q I rx ry ⟨d, e, hd, he, ha, hn, hz, q⟩
  obtain ⟨as, r1⟩ := Dp.reads I d x v hd rx
  obtain ⟨bs, r2⟩ := Dp.reads I e y u he ry
  exact PySem.W.lt_data r1 r2 ha hn (room_cmp hz hu) ⟨.bl _, H, I, rfl, q⟩
theorem op_gtD (hu : X.A.units + 65 < cLine) : OpR X (compareOp .Gt) (rCmpD X.K gtD) := by
  intro pins s σ H x y v u Q I rx ry ⟨d, e, hd, he, ha, hn, hz, q⟩
  obtain ⟨as, r1⟩ := Dp.reads I d x v hd rx
  obtain ⟨bs, r2⟩ := Dp.reads I e y u he ry
  exact PySem.W.gt_data r1 r2 ha hn (room_cmp hz hu) ⟨.bl _, H, I, rfl, q⟩
theorem op_leD (hu : X.A.units + 65 < cLine) : OpR X (compareOp .LtE) (rCmpD X.K leD) := by
  intro pins s σ H x y v u Q I rx ry ⟨d, e, hd, he, ha, hn, hz, q⟩
  obtain ⟨as, r1⟩ := Dp.reads I d x v hd rx
  obtain ⟨bs, r2⟩ := Dp.reads I e y u he ry
  exact PySem.W.le_data r1 r2 ha hn (room_cmp hz hu) ⟨.bl _, H, I, rfl, q⟩
theorem op_geD (hu : X.A.units + 65 < cLine) : OpR X (compareOp .GtE) (rCmpD X.K geD) := by
  intro pins s σ H x y v u Q I rx ry ⟨d, e, hd, he, ha, hn, hz, q⟩
  obtain ⟨as, r1⟩ := Dp.reads I d x v hd rx
  obtain ⟨bs, r2⟩ := Dp.reads I e y u he ry
  exact PySem.W.ge_data r1 r2 ha hn (room_cmp hz hu) ⟨.bl _, H, I, rfl, q⟩
variable {N : List Str} {sc : Scope}
theorem o_ltD (hX : In X N sc) : OpR X (compareOp .Lt) (lO X.K (fCmpD ltI ltD)) := op_imp (op_ltD hX.units) fun _ _ _ _ h => fCmpD_run g_lt h
theorem o_gtD (hX : In X N sc) : OpR X (compareOp .Gt) (lO X.K (fCmpD gtI gtD)) := op_imp (op_gtD hX.units) fun _ _ _ _ h => fCmpD_run g_gt h
theorem o_leD (hX : In X N sc) : OpR X (compareOp .LtE) (lO X.K (fCmpD leI leD)) := op_imp (op_leD hX.units) fun _ _ _ _ h => fCmpD_run g_le h
theorem o_geD (hX : In X N sc) : OpR X (compareOp .GtE) (lO X.K (fCmpD geI geD)) := op_imp (op_geD hX.units) fun _ _ _ _ h => fCmpD_run g_ge h

/-! ### range(i, j, c), any step -/
variable {tg a b c : Expr}
def iRangeC (n : AX) : IX := fun env st => (n env st).bind fun ws s1 => match ws with
  | [.int i, .int j, .int c] => if c ≠ 0 ∧ c.natAbs < 1073741824 ∧ Builtin.Range.small i j c = true ∧ 0 ≤ Builtin.Range.rangeSize i j c then .ok (.fix (rngW i c (Builtin.Range.rangeSize i j c).toNat)) s1 else .err
  | _ => .err
theorem ri_rangeC (hX : In X N sc) {m n o : EX} {p : Pos} (hg : glB sc "range" = true) (hm : X.mg "range" = none) (ha : RE X a m) (hb : RE X b n) (hc : RE X c o)
    (hs : Pl a := by exact fun _ _ => rfl) (hs2 : Pl b := by exact fun _ _ => rfl) (hs3 : Pl c := by exact fun _ _ => rfl) :
    RI X tg (.Call (.Name "range" p) [a, b, c] [] pos) (iRangeC (aCons m (aCons n (aCons o aNil)))) := pi_imp (pi_range3 (hX.gl hg) hm (ra_cons ha (ra_cons hb (ra_cons hc ra_nil hs3) hs2) hs) (hs [b, c] X.env) (by rw [hs2 [c] X.env, hs3 [] X.env]; rfl)) fun σ H R0 ⟨μ, env, st, src, st', S, E, h, k⟩ => by
  obtain ⟨ws, s1, h1, h2⟩ := R.bind_ok h
  obtain ⟨w, u, z, rfl⟩ := cons3 h1
  refine ⟨μ, env, st, _, s1, S, E, h1, fun μ1 H1 vs N1 S1 r1 => ?_⟩
  cases w with
  | int i =>
    cases u with
    | int j =>
      cases z with
      | int c0 =>
        have := args3 r1; subst this
        simp only [] at h2
        split at h2
        · rename_i hj
          cases h2
          refine ⟨i, j, c0, _, rfl, ⟨hj.1, hj.2.1, hj.2.2.1, ?_⟩, k _ _ _ N1 S1 src_rngC⟩
          have h0 := hj.2.2.2
          omega
        · cases h2
      | _ => cases h2
    | _ => cases h2
  | _ => cases h2
end
end Rx

/-! RxS: sorted(set(xs)), xs a list of tuples of whole numbers, of any length, few different ones among them. -/
namespace Rx
open PySem PySem.Spec PyProof.Rows L2

abbrev AK := Addr × List Int
def FewK (ks : List AK) : Prop := ∀ L : List AK, (L.map (·.2)).Nodup → (∀ p ∈ L, p ∈ ks) → L.length < 63
section
variable {P : Program} {w : World} {A : Around} {E : Value → Shared → Prop} {s : Shared}
/-- the set at S after i items, the old heap g kept -/
structure Half (P : Program) (w : World) (g : Heap) (S : Addr) (ks : List AK) (i : Nat) (z : Shared) : Prop where
  old : ∀ b o, g.get? b = some o → z.heap.get? b = some o
  set : ∃ L es ep t, SetTR P w z.heap S L es ep t ∧ Got ks i L
theorem Half.sub {g : Heap} {S : Addr} {ks L : List AK} {i : Nat} (h : Got ks i L) : ∀ p ∈ L, p ∈ ks :=
  fun p hp => List.mem_of_mem_take (h.sub p hp)
theorem Half.moved {g : Heap} {S : Addr} {ks : List AK} {i : Nat} {z z' : Shared} {wr : List Addr} {G : Array GenState → Array GenState → Prop}
    (H : Half P w g S ks i z) (m : Moved wr G z z') (nS : S ∉ wr) (nw : ∀ b ∈ wr, g.get? b = none) (kin : ∀ p ∈ ks, IsT P w g p.2 p.1) :
    Half P w g S ks i z' := by
  have k : ∀ b o, g.get? b = some o → z'.heap.get? b = some o := by
    intro b o e
    refine m.heap b o ?_ (H.old b o e)
    intro hb
    rw [nw b hb] at e
    cases e
  obtain ⟨L, es, ep, t, R, G1⟩ := H.set
  refine ⟨k, L, es, ep, t, R.keep ?_ ?_, G1⟩
  · intro o e
    exact m.heap S o nS e
  · intro p hp
    exact isT_keep (kin p (Half.sub (g := g) (S := S) G1 p hp)) k
/-- one item more -/
theorem half_add {g : Heap} {S : Addr} {ks : List AK} {i : Nat} {p : AK} {tk : Nat} (H : Half P w g S ks i s) (few : FewK ks) (at_ : ks[i]? = some p)
    (kin : ∀ q ∈ ks, IsT P w g q.2 q.1) (gS : g.get? S = none) (un : A.units < cLine) {Q : Bool → Shared → Prop}
    (fin : ∀ b h', Heap.SameBut S s.heap h' → Half P w g S ks (i + 1) { s with heap := h', toks := s.toks + tk } → Q b { s with heap := h', toks := s.toks + tk }) :
    wpAny (model P w) A (setAddHashed S (.ref p.1) (thash P w p.2)) Q E { s with toks := s.toks + tk } := by
  obtain ⟨L, es, ep, t, R, G1⟩ := H.set
  have hp : p ∈ ks := List.mem_of_getElem? at_
  have hl := few L R.nd (Half.sub (g := g) (S := S) G1)
  have hx := isT_keep (kin p hp) H.old
  refine add_at (s := { s with toks := s.toks + tk }) R hx un (by omega) ?_
  intro b h' L' es' ep' t' sb R' same more
  refine fin b h' sb ⟨?_, L', es', ep', t', R', ?_⟩
  · intro c o e
    refine (sb.2 c ?_).trans (H.old c o e)
    rintro rfl
    rw [gS] at e
    cases e
  · rcases Classical.em (p.2 ∈ L.map (·.2)) with c | c
    · rw [same c]
      exact G1.same at_ c
    · exact G1.more at_ (more c)
theorem upd_few {I S : Addr} {fp wr : List Addr} {G : Array GenState → Array GenState → Prop} {n : Nat} {Pv : Nat → Value → Prop} {St : Nat → Shared → Prop} {R : Result → Shared → Prop} {ks : List AK} {g : Heap}
    (W : WalksS P w A.in1 I fp wr G n Pv St) (nS : S ∉ fp) (few : FewK ks) (at_ : ∀ i v, Pv i v → ∃ p, ks[i]? = some p ∧ v = .ref p.1)
    (kin : ∀ p ∈ ks, IsT P w g p.2 p.1) (gS : g.get? S = none) (gw : ∀ b ∈ wr, g.get? b = none) (un : A.in1.units < cLine) :
    ∀ (m i : Nat) (z : Shared), i + m = n → St i z → Half P w g S ks i z →
      (∀ z', Moved (S :: wr) G z z' → Half P w g S ks n z' → R (.ok (.ret .none)) z') →
      codeAny (model P w) A (.builtin "set.update.loop" ⟨[.ref S, .ref I], []⟩) R z := by
  have nw : S ∉ wr := fun h => nS (W.sub _ h)
  have up : ∀ b ∈ wr, b ∈ S :: wr := fun b => List.mem_cons_of_mem S
  intro m
  induction m with
  | zero =>
    intro i z e st H fin
    obtain rfl : i = n := by omega
    refine codeAny_builtin F.entry_set_update_loop ?_
    rw [Around.under_plainId F.plain_set_update_loop _]
    change wpAny _ A.in1 (pyNext (.ref I) >>= _) _ _ z
    refine wpAny_bind (W.done z _ _ st ?_)
    intro z' mv
    exact wpAny_pure (fin z' (mv.mono up) (H.moved mv nw gw kin))
  | succ m ih =>
    intro i z e st H fin
    have lt : i < n := by omega
    refine codeAny_builtin F.entry_set_update_loop ?_
    rw [Around.under_plainId F.plain_set_update_loop _]
    change wpAny _ A.in1 (pyNext (.ref I) >>= _) _ _ z
    refine wpAny_bind (W.item i z _ _ lt st ?_)
    intro v z' pv st' mv
    obtain ⟨p, ep, rfl⟩ := at_ i v pv
    have H' := H.moved mv nw gw kin
    have hx : IsT P w z'.heap p.2 p.1 := isT_keep (kin p (List.mem_of_getElem? ep)) H'.old
    change wpAny _ A.in1 (holding [Value.ref p.1] (setAdd S (.ref p.1)) >>= _) _ _ z'
    refine wpAny_bind (wpAny_holding ?_)
    unfold setAdd
    refine wpAny_holding (wpAny_bind (wpAny_pyHash_tuple un hx ?_))
    refine half_add H' few ep kin gS un ?_
    intro b h' sb H2
    refine wpAny_pure ⟨plainId_quiet F.plain_set_update_loop _, ?_⟩
    refine ih (i + 1) _ (by omega) (W.frame _ z' _ _ st' (Nat.le_add_right _ _) ?_) H2 ?_
    · intro b hb o e
      rw [sb.2 b (fun h : b = S => nS (h ▸ hb))]
      exact e
    · intro z2 mv2 H3
      refine fin z2 (Moved.trans W.gtrans ((mv.mono up).then_heap (Nat.le_add_right _ _) ?_) mv2) H3
      intro b o hb e
      rw [sb.2 b (fun h : b = S => hb (h ▸ List.mem_cons_self))]
      exact e

/-- an empty set, as the call makes it -/
abbrev newS (w : World) : Obj := { cls := .type "set", dict := none, data := .set #[] 0 (.fresh 0 0 (!w.params.followText "set-order")) }
theorem half_new {g : Heap} {S : Addr} {ks : List AK} {z : Shared} (o : z.heap.get? S = some (newS w)) (k : ∀ b o, g.get? b = some o → z.heap.get? b = some o) : Half P w g S ks 0 z :=
  ⟨k, [], #[], 0, _, setTR_fresh o, Got.zero ks⟩
/-- what stands behind the call -/
def SetDone (P : Program) (w : World) (ks : List AK) (s z : Shared) : Prop :=
  ∃ h' tk, z = { s with heap := h', toks := tk } ∧ Half P w s.heap s.heap.objs.size ks ks.length z

/-- the loop behind set.__init__, from the state with the set and the list's iterator -/
theorem loop_few {l : Addr} {vs : Array Value} {ks : List AK} (hh : A.in1.handled = none) (hl : s.heap.IsList l vs) (e : vs.toList = ks.map fun p => Value.ref p.1)
    (kin : ∀ p ∈ ks, IsT P w s.heap p.2 p.1) (few : FewK ks) (un : A.in1.units < cLine) {R : Result → Shared → Prop}
    (fin : ∀ z, SetDone P w ks s z → R (.ok (.ret .none)) z) :
    codeAny (model P w) A (.builtin "set.update.loop" ⟨[.ref s.heap.objs.size, .ref (s.heap.push (newS w)).objs.size], []⟩) R
      { s with heap := (s.heap.push (newS w)).push { cls := .type "list_iterator", data := .fields #[.ref l, .int 0 0] } } := by
  have big : ∀ b, s.heap.objs.size ≤ b → s.heap.get? b = none := by
    intro b hb
    cases q : s.heap.get? b with
    | none => rfl
    | some o => exact absurd (Heap.lt_size q) (Nat.not_lt_of_le hb)
  obtain ⟨o, ho, _⟩ := id hl
  have low : l < s.heap.objs.size := Heap.lt_size ho
  have sz : (s.heap.push (newS w)).objs.size = s.heap.objs.size + 1 := Heap.size_push ..
  have ne : l ≠ (s.heap.push (newS w)).objs.size := by
    rw [sz]
    exact Nat.ne_of_lt (Nat.lt_succ_of_lt low)
  have many : vs.size = ks.length := by
    have q := congrArg List.length e
    simpa using q
  have S0 : (s.heap.push (newS w)).get? s.heap.objs.size = some (newS w) := Heap.get?_push_size _ rfl
  refine upd_few (Walks.list hh _ l ne vs).toS ?_ few ?_ kin (big _ (Nat.le_refl _)) ?_ un vs.size 0 _ (Nat.zero_add _) ?_ (half_new ?_ ?_) ?_
  · rw [sz]
    intro hm
    rcases List.mem_cons.mp hm with h | h
    · exact absurd h (Nat.ne_of_lt (Nat.lt_succ_self _))
    · exact absurd (List.mem_singleton.mp h) (Nat.ne_of_gt low)
  · intro i v hv
    have q : vs.toList[i]? = some v := by rw [Array.getElem?_toList]; exact hv
    rw [e, List.getElem?_map] at q
    cases hq : ks[i]? with
    | none => rw [hq] at q; cases q
    | some p =>
      rw [hq] at q
      cases q
      exact ⟨p, rfl, rfl⟩
  · intro b hb
    refine big b ?_
    rw [List.mem_singleton.mp hb, sz]
    exact Nat.le_succ _
  · exact ⟨⟨_, Heap.get?_push_size _ rfl, rfl, rfl⟩, (hl.push _).push _⟩
  · exact Heap.get?_push_of_some _ S0
  · intro b o q
    exact Heap.get?_push_of_some _ (Heap.get?_push_of_some _ q)
  · intro z mv H
    refine fin z ?_
    rw [many] at H
    obtain ⟨h', g', d', tk', os'⟩ := z
    obtain rfl : g' = s.gens := mv.gens
    obtain rfl : d' = s.drawn := mv.drawn
    obtain rfl : os' = s.os := mv.os
    exact ⟨h', tk', rfl, H⟩

set_option maxHeartbeats 3200000 in
/-- set(xs) -/
theorem set_few {l : Addr} {vs : Array Value} {ks : List AK} {Q : Value → Shared → Prop} (hh : A.handled = none) (hl : s.heap.IsList l vs) (e : vs.toList = ks.map fun p => Value.ref p.1)
    (kin : ∀ p ∈ ks, IsT P w s.heap p.2 p.1) (few : FewK ks) (un : A.units + 3 < cLine)
    (fin : ∀ z, SetDone P w ks s z → Q (.ref s.heap.objs.size) z) : wpAny (model P w) A (call (.type "set") [.ref l]) Q E s := by
  have S0 : (s.heap.push (newS w)).get? s.heap.objs.size = some (newS w) := Heap.get?_push_size _ rfl
  have T0 : Shared.TypeIs { s with heap := s.heap.push (newS w) } (.ref s.heap.objs.size) "set" := ⟨_, S0, rfl⟩
  have hl1 : (s.heap.push (newS w)).IsList l vs := hl.push _
  obtain ⟨cl, rest, mro⟩ := F.called_set.mro
  have m1 := F.called_set.made
  have m2 := F.called_set.sub
  have m3 := F.called_set.notType
  have m4 := F.called_set.canCreate
  have m5 := F.typeCall_set_1 (.ref l)
  refine wpAny_call (codeAny_of_tree ?_)
  change wpAny _ _ (callAny (.type "set") _) _ _ _
  refine wpAny_pure ⟨Code.quiet_builtin _ (by decide +kernel), codeAny_builtin F.entry_type_call ?_⟩
  rw [Around.under_plain (weight_type_call_type "set" [.ref l] []) rfl]
  repeat (any_goals (first | assumption | wp_step))
  refine codeAny_mono (code_set_led1 (.ref l) (E := E) (Q₁ := fun v z => v = .ref s.heap.objs.size ∧ z = { s with heap := s.heap.push (newS w) }) ⟨rfl, rfl⟩) ?_
  rintro (x | fl) z hz
  · exact hz
  cases fl with
  | ret v =>
    obtain ⟨rfl, rfl⟩ := hz
    have m6 := F.called_set.init.lookup
    have m7 := F.called_set.init.bind (.ref s.heap.objs.size)
    repeat (any_goals (first | assumption | wp_step))
    refine codeAny_mono (codeAny_call_builtin (R := wants (fun r z => r = .none ∧ SetDone P w ks s z) E) F.called_set.init.plain F.entry_set_init (check_set_init_1 T0 ?_)) ?_
    · obtain ⟨ol, hol, hcl, nl, hdl⟩ := hl1
      obtain ⟨oc, od, oda, osl⟩ := ol
      cases hcl
      cases hdl
      have n1 := F.sub_list_set
      have n2 := F.sub_list_frozenset
      have n3 : (Value.type "list" == Value.type "dict") = false := by decide
      unfold Builtin.«set.__init__» noKeywords Builtin.Frozenset.updateFrom
      generalize hp : pyIter = it
      wp_walk
      subst hp
      refine wpAny_pyIter_list (items := vs) ⟨_, hol, rfl, nl, rfl⟩ (wpAny_bind (wpAny_runValue ?_))
      refine loop_few (by simp [hh]) hl e kin few (by simpa using un) ?_
      intro z H
      refine wpAny_pure ?_
      change wpAny _ _ (ret Value.none) _ _ _
      exact wpAny_pure ⟨rfl, H⟩
    · rintro (x | fl) z hz
      · exact hz
      cases fl with
      | ret v =>
        obtain ⟨rfl, H⟩ := hz
        obtain ⟨h', tk, rfl, H2⟩ := id H
        repeat (any_goals (first | assumption | wp_step))
        exact fin _ H
      | _ => exact hz.elim
  | _ => exact hz.elim
end
end Rx

/-! RxT: the rule for sorted(set(xs)). -/
namespace Rx
open PySem PySem.Spec PyProof.Rows L2

/-! ### in order, each once -/
def cB : Int := 1073741824
abbrev cd (k : List Int) : Int := TS.code cB k
def putK (k : List Int) : List (List Int) → List (List Int)
  | [] => [k]
  | x :: xs => if k = x then x :: xs else if cd k < cd x then k :: x :: xs else x :: putK k xs
def setK : List (List Int) → List (List Int)
  | [] => []
  | k :: ks => putK k (setK ks)
def okK (d : Nat) (k : List Int) : Bool := Nat.beq k.length d && k.all fun m => decide (0 ≤ m) && decide (m < cB)
def dimK : List (List Int) → Nat
  | [] => 1
  | k :: _ => k.length
def allK (ks : List (List Int)) : Bool := Nat.ble 1 (dimK ks) && ks.all (okK (dimK ks)) && Nat.ble ((setK ks).length + 1) 63
def Ok1 (d : Nat) (k : List Int) : Prop := k.length = d ∧ TS.Bd cB k
theorem okK_ok {d : Nat} {k : List Int} (h : okK d k = true) : Ok1 d k := by
  unfold okK at h
  rw [Bool.and_eq_true] at h
  refine ⟨Nat.eq_of_beq_eq_true h.1, fun m hm => ?_⟩
  have := List.all_eq_true.mp h.2 m hm
  simpa using this
theorem code_inj : ∀ {k j : List Int}, k.length = j.length → TS.Bd cB k → TS.Bd cB j → cd k = cd j → k = j
  | [], [], _, _, _, _ => rfl
  | x :: k, y :: j, hl, hk, hj, e => by
    have hl' : k.length = j.length := by simpa using hl
    rcases Int.lt_trichotomy x y with h | h | h
    · have := TS.code_lt hl' hk.tail hj.tail h
      unfold cd at e
      omega
    · subst h
      have e' : cd k = cd j := by
        unfold cd at e ⊢
        change x * cB ^ k.length + TS.code cB k = x * cB ^ j.length + TS.code cB j at e
        rw [hl'] at e
        omega
      rw [code_inj hl' hk.tail hj.tail e']
    · have := TS.code_lt hl'.symm hj.tail hk.tail h
      unfold cd at e
      omega
  | [], _ :: _, h, _, _, _ => by cases h
  | _ :: _, [], h, _, _, _ => by cases h
theorem putK_mem {k x : List Int} : ∀ {xs : List (List Int)}, x ∈ putK k xs ↔ x = k ∨ x ∈ xs
  | [] => by simp [putK]
  | y :: ys => by
    unfold putK
    split
    · rename_i h
      subst h
      simp
    · split
      · simp
      · rw [List.mem_cons, putK_mem (xs := ys), List.mem_cons]
        constructor
        · rintro (h | h | h)
          · exact .inr (.inl h)
          · exact .inl h
          · exact .inr (.inr h)
        · rintro (h | h | h)
          · exact .inr (.inl h)
          · exact .inl h
          · exact .inr (.inr h)
theorem setK_mem {x : List Int} : ∀ {xs : List (List Int)}, x ∈ setK xs ↔ x ∈ xs
  | [] => Iff.rfl
  | y :: ys => by
    unfold setK
    rw [putK_mem, setK_mem (xs := ys), List.mem_cons]
theorem putK_pw {d : Nat} {k : List Int} (hk : Ok1 d k) : ∀ {xs : List (List Int)}, (∀ x ∈ xs, Ok1 d x) → xs.Pairwise (fun a b => cd a < cd b) → (putK k xs).Pairwise fun a b => cd a < cd b
  | [], _, _ => List.pairwise_singleton _ _
  | y :: ys, ho, h => by
    obtain ⟨h1, h2⟩ := List.pairwise_cons.mp h
    unfold putK
    split
    · exact h
    · rename_i ne
      split
      · rename_i lt
        refine List.pairwise_cons.mpr ⟨fun z hz => ?_, h⟩
        rcases List.mem_cons.mp hz with rfl | hz
        · exact lt
        · exact Int.lt_trans lt (h1 z hz)
      · rename_i nlt
        refine List.pairwise_cons.mpr ⟨fun z hz => ?_, putK_pw hk (fun x hx => ho x (List.mem_cons_of_mem _ hx)) h2⟩
        rcases putK_mem.mp hz with rfl | hz
        · have oy := ho y List.mem_cons_self
          have nc : cd z ≠ cd y := fun e => ne (code_inj (hk.1.trans oy.1.symm) hk.2 oy.2 e)
          omega
        · exact h1 z hz
theorem setK_pw {d : Nat} : ∀ {xs : List (List Int)}, (∀ x ∈ xs, Ok1 d x) → (setK xs).Pairwise fun a b => cd a < cd b
  | [], _ => .nil
  | y :: ys, ho => putK_pw (ho y List.mem_cons_self) (fun x hx => ho x (List.mem_cons_of_mem _ (setK_mem.mp hx))) (setK_pw fun x hx => ho x (List.mem_cons_of_mem _ hx))
theorem strict_eq {α : Type} {f : α → Int} : ∀ {l m : List α}, l.Pairwise (fun a b => f a < f b) → m.Pairwise (fun a b => f a < f b) → (∀ x, x ∈ l ↔ x ∈ m) → l = m
  | [], [], _, _, _ => rfl
  | [], b :: m, _, _, h => absurd ((h b).mpr List.mem_cons_self) (List.not_mem_nil)
  | a :: l, [], _, _, h => absurd ((h a).mp List.mem_cons_self) (List.not_mem_nil)
  | a :: l, b :: m, hl, hm, h => by
    obtain ⟨l1, l2⟩ := List.pairwise_cons.mp hl
    obtain ⟨m1, m2⟩ := List.pairwise_cons.mp hm
    have e : a = b := by
      rcases List.mem_cons.mp ((h a).mp List.mem_cons_self) with e | ha
      · exact e
      · rcases List.mem_cons.mp ((h b).mpr List.mem_cons_self) with e | hb
        · exact e.symm
        · have q1 := m1 a ha
          have q2 := l1 b hb
          omega
    subst e
    rw [strict_eq l2 m2 fun x => ?_]
    constructor
    · intro hx
      rcases List.mem_cons.mp ((h x).mp (List.mem_cons_of_mem _ hx)) with e | hx'
      · subst e
        exact absurd (l1 x hx) (Int.lt_irrefl _)
      · exact hx'
    · intro hx
      rcases List.mem_cons.mp ((h x).mpr (List.mem_cons_of_mem _ hx)) with e | hx'
      · subst e
        exact absurd (m1 x hx) (Int.lt_irrefl _)
      · exact hx'
theorem nodup_len {α : Type} [DecidableEq α] : ∀ {l m : List α}, l.Nodup → (∀ x ∈ l, x ∈ m) → l.length ≤ m.length
  | [], _, _, _ => Nat.zero_le _
  | x :: l, m, hn, hs => by
    obtain ⟨h1, h2⟩ := List.nodup_cons.mp hn
    have hx := hs x List.mem_cons_self
    have ih := nodup_len (l := l) (m := m.erase x) h2 fun y hy => (List.mem_erase_of_ne (fun e : y = x => h1 (e ▸ hy))).2 (hs y (List.mem_cons_of_mem _ hy))
    rw [List.length_erase_of_mem hx] at ih
    have := List.length_pos_of_mem hx
    simp only [List.length_cons]
    omega
theorem few_of {ks : List AK} (h : (setK (ks.map (·.2))).length < 63) : FewK ks := by
  intro L nd sub
  have := nodup_len (m := setK (ks.map (·.2))) nd fun x hx => ?_
  · rw [List.length_map] at this
    omega
  · obtain ⟨p, hp, rfl⟩ := List.mem_map.mp hx
    exact setK_mem.mpr (List.mem_map.mpr ⟨p, sub p hp, rfl⟩)
theorem keys_eq {d : Nat} {ks L : List AK} (ok : ∀ k ∈ ks.map (·.2), Ok1 d k) (nd : (L.map (·.2)).Nodup) (sub : ∀ p ∈ L, p ∈ ks) (all : ∀ p ∈ ks, p.2 ∈ L.map (·.2))
    (pw : L.Pairwise fun q r => cd q.2 ≤ cd r.2) : L.map (·.2) = setK (ks.map (·.2)) := by
  have ok' : ∀ p ∈ L, Ok1 d p.2 := fun p hp => ok _ (List.mem_map.mpr ⟨p, sub p hp, rfl⟩)
  refine strict_eq (f := cd) ?_ (setK_pw ok) fun x => ?_
  · have nd' : L.Pairwise fun q r => q.2 ≠ r.2 := List.pairwise_map.mp nd
    refine List.pairwise_map.mpr (List.Pairwise.imp_of_mem (fun {q r} hq hr h => ?_) (List.Pairwise.and pw nd'))
    have o1 := ok' q hq
    have o2 := ok' r hr
    have ne : cd q.2 ≠ cd r.2 := fun e => h.2 (code_inj (o1.1.trans o2.1.symm) o1.2 o2.2 e)
    have le := h.1
    omega
  · rw [setK_mem]
    constructor
    · intro hx
      obtain ⟨p, hp, rfl⟩ := List.mem_map.mp hx
      exact List.mem_map.mpr ⟨p, sub p hp, rfl⟩
    · intro hx
      obtain ⟨p, hp, rfl⟩ := List.mem_map.mp hx
      exact all p hp

/-! ### the mirror -/
def wInts : List W → Option (List Int)
  | [] => some []
  | .int i :: ws => match wInts ws with
    | some is => some (i :: is)
    | none => none
  | _ => none
def wTups : List W → Option (List (List Int))
  | [] => some []
  | .tup xs :: ws => match wInts xs, wTups ws with
    | some k, some ks => some (k :: ks)
    | _, _ => none
  | _ => none
def tupK (k : List Int) : W := .tup (k.map W.int)
def gSortSet (a : W) (st : Sto) : R W := match a with
  | .ls n => match st[n]? with
    | some (.lst xs) => match wTups xs with
      | some ks => if allK ks = true then .ok (.ls st.length) (st ++ [.lst ((setK ks).map tupK)]) else .err
      | none => .err
    | none => .err
  | _ => .err
theorem wInts_ok : ∀ {ws : List W} {k : List Int}, wInts ws = some k → ws = k.map W.int
  | [], k, h => by cases h; rfl
  | .int i :: ws, k, h => by
    unfold wInts at h
    split at h
    · rename_i is e
      cases h
      rw [wInts_ok e]
      rfl
    · cases h
  | .non :: _, _, h => by cases h
  | .bl _ :: _, _, h => by cases h
  | .str _ :: _, _, h => by cases h
  | .ty _ :: _, _, h => by cases h
  | .tup _ :: _, _, h => by cases h
  | .ls _ :: _, _, h => by cases h
  | .frz _ :: _, _, h => by cases h
section
variable {K : PySem.W.Frag} {μ : Nat → Addr} {L : Nat} {H : Hp}
theorem reps_tups : ∀ {ws : List W} {vs : List V} {kss : List (List Int)}, Reps K μ L H vs ws → wTups ws = some kss → ∃ ks : List AK, vs = ks.map (fun p => V.ref p.1) ∧ ks.map (·.2) = kss ∧ ∀ p ∈ ks, Tp K H p.1 (p.2.map V.int)
  | [], _, _, .nil, h => by
    cases h
    exact ⟨[], rfl, rfl, fun p hp => by cases hp⟩
  | w :: ws, _, kss, .cons (v := v) (vs := vs) r rs, h => by
    unfold wTups at h
    split at h
    · rename_i heq
      cases heq
    · rename_i xs ws' heq
      cases heq
      split at h
      · rename_i k ks' e1 e2
        cases h
        obtain ⟨ks, q1, q2, q3⟩ := reps_tups rs e2
        obtain ⟨a, us, rfl, t, rr⟩ := rep_tup r
        rw [wInts_ok e1] at rr
        rw [Reps.ofInts rr] at t
        refine ⟨(a, k) :: ks, by rw [q1]; rfl, by rw [← q2]; rfl, fun p hp => ?_⟩
        rcases List.mem_cons.mp hp with rfl | hp
        · exact t
        · exact q3 p hp
      · cases h
    · cases h
theorem reps_keys : ∀ {ks : List AK}, (∀ p ∈ ks, Tp K H p.1 (p.2.map V.int)) → Reps K μ L H (ks.map fun p => V.ref p.1) (ks.map fun p => tupK p.2)
  | [], _ => .nil
  | p :: ks, h => .cons (.tup (h p List.mem_cons_self) Reps.ints) (reps_keys fun q hq => h q (List.mem_cons_of_mem _ hq))
end

/-! ### the rule -/
section
variable {X : Cx} {a : Expr} {N : List Str} {sc : Scope} {p p2 pos pos2 : Pos}
def rSetFew (K : PySem.W.Frag) (P : Program) (w : World) : List V → Hp → VK → Prop := fun xs H Q => ∃ (l : Addr) (ks : List AK),
  xs = [V.ref l] ∧ SqL K H l (ks.map fun p => V.ref p.1) ∧ (∀ p ∈ ks, SqT K H p.1 (p.2.map V.int)) ∧ FewK ks ∧
  ∀ a L, H a = none → (L.map (·.2)).Nodup → (∀ p ∈ L, p ∈ ks) → (∀ p ∈ ks, p.2 ∈ L.map (·.2)) → Q (.ref a) (upd H a (SetTO P w a L))
theorem cr_setFew (hc : X.calm = true) (hu : X.A.units + 64 < cLine) : CallR X (.type "set") (rSetFew X.K X.prog X.w) := by
  intro pins s σ H xs us Q I r h
  obtain ⟨l, ks, rfl, hl, hk, few, q⟩ := h
  rw [Vals.ref1 r]
  obtain ⟨its, rv, pl, hz⟩ := I.list hl
  have hn : H s.heap.objs.size = none := I.hok.fresh (Nat.le_refl _)
  refine set_few (ks := ks) (I.ok.hd hc) pl.isList (by simpa using refs_of_vals rv) (fun p hp => I.isT (hk p hp)) few (by omega) fun z ⟨h', tk, e, k, L, es, ep, t, R, g⟩ => ?_
  subst e
  refine ⟨.ref s.heap.objs.size, upd H s.heap.objs.size (SetTO X.prog X.w s.heap.objs.size L), I.laid (t' := tk) k (Nat.le_refl _) (setTO_new R.t0), rfl, q _ L hn R.nd (fun p hp => List.mem_of_mem_take (g.sub p hp)) fun p hp => g.all p ?_⟩
  rw [List.take_length]
  exact hp
theorem re_sortSet (hX : In X N sc) {m : EX} (hg : glB sc "sorted" = true) (hm : X.mg "sorted" = none) (hg2 : glB sc "set" = true) (hm2 : X.mg "set" = none) (ha : RE X a m) (hs : Pl a := by exact fun _ _ => rfl) :
    RE X (.Call (.Name "sorted" p) [.Call (.Name "set" p2) [a] [] pos2] [] pos) (eCall (f1 gSortSet) (aCons m aNil)) :=
  pe_imp (pe_callB (cr_sortedT hX.calm) (hX.gl hg) hm rfl (pa_cons (pe_callTy (cr_setFew hX.calm hX.room.units) (hX.gl hg2) hm2 rfl (pa_cons ha pa_nil (hs [] X.env)) (he := hs [] X.env)) pa_nil)) fun σ H Q ⟨μ, env, st, w, st', S, E, h, k⟩ => by
    obtain ⟨ws, s1, h1, h2⟩ := R.bind_ok h
    obtain ⟨x, s2, h3, h4⟩ := R.bind_ok h1
    cases h4
    refine ⟨μ, env, st, x, s1, S, E, h3, fun μ1 H1 v N1 S1 r1 => ?_⟩
    change gSortSet x s1 = _ at h2
    unfold gSortSet at h2
    split at h2
    · rename_i n
      split at h2
      · rename_i xs e1
        split at h2
        · rename_i kss e2
          split at h2
          · rename_i ok
            cases h2
            unfold allK at ok
            rw [Bool.and_eq_true, Bool.and_eq_true] at ok
            obtain ⟨⟨o1, o2⟩, o3⟩ := ok
            have o1 := Nat.le_of_ble_eq_true o1
            have o3 := Nat.le_of_ble_eq_true o3
            obtain ⟨vs, hv, rv⟩ := S1.lstAt e1
            cases r1
            obtain ⟨ks, rfl, rfl, tp⟩ := reps_tups rv e2
            have ok : ∀ k ∈ ks.map (·.2), Ok1 (dimK (ks.map (·.2))) k := fun k hk => okK_ok (List.all_eq_true.mp o2 k hk)
            refine ⟨μ1 n, ks, rfl, .inl (.inl hv), fun p hp => (tp p hp).sq, few_of (by omega), fun b L hb nd sub all => ?_⟩
            have N2 : Nxt X.K μ1 s1.length H1 μ1 s1.length (upd H1 b (SetTO X.prog X.w b L)) := Nxt.tup hb
            refine ⟨b, L, dimK (ks.map fun p : AK => (p.2 : List Int)), cB, rfl, upd_same, fun p hp => (N2.tp _ _ (tp p (sub p hp))).sq, o1, fun p hp => ok p.2 (List.mem_map.mpr ⟨p, sub p hp, rfl⟩), fun L' q pm nd' _ pw hq => ?_⟩
            have sub' : ∀ p ∈ L', p ∈ ks := fun p hp => sub p (pm.mem_iff.mp hp)
            have e := keys_eq ok nd' sub' (fun p hp => (pm.map (·.2)).mem_iff.mpr (all p hp)) pw
            have e' : (setK (ks.map (·.2))).map tupK = L'.map fun p => tupK p.2 := by
              rw [← e, List.map_map]
              rfl
            rw [e'] at k
            exact ((k.mono N1).mono N2).new (S1.tup hb) (reps_keys fun p hp => N2.tp _ _ (tp p (sub' p hp))) hq
          · cases h2
        · cases h2
      · cases h2
    · cases h2
end
end Rx

/-! UxA: values without a store; how they stand in the mirrors' store. -/
namespace Rx
open PySem PySem.Spec PyProof.Rows L2
/-- a value by its structure alone -/
inductive U where
  | non | bl (b : Bool) | int (i : Int) | str (x : Str) | ty (n : String)
  | tup (xs : List U) | lst (xs : List U) | frz (ns : List Int)
noncomputable def bnd {α β : Type} (o : Option α) (f : α → Option β) : Option β := @Option.rec α (fun _ => Option β) none f o
theorem bnd_none {α β : Type} (f : α → Option β) : bnd none f = none := rfl
theorem bnd_some {α β : Type} (a : α) (f : α → Option β) : bnd (some a) f = f a := rfl
theorem bnd_ok {α β : Type} {o : Option α} {f : α → Option β} {b : β} (h : bnd o f = some b) : ∃ a, o = some a ∧ f a = some b := by
  cases o with
  | none => cases h
  | some a => exact ⟨a, rfl, h⟩

mutual
/-- u is what w is in the store; no list of it is in Z -/
inductive Em (Z : Nat → Prop) (st : Sto) : U → W → Prop
  | non : Em Z st .non .non
  | bl (b : Bool) : Em Z st (.bl b) (.bl b)
  | int (i : Int) : Em Z st (.int i) (.int i)
  | str (x : Str) : Em Z st (.str x) (.str x)
  | ty (n : String) : Em Z st (.ty n) (.ty n)
  | tup {us : List U} {ws : List W} : Ems Z st us ws → Em Z st (.tup us) (.tup ws)
  | lst {us : List U} {ws : List W} {n : Nat} : ¬ Z n → st[n]? = some (.lst ws) → Ems Z st us ws → Em Z st (.lst us) (.ls n)
  | frz (ns : List Int) : Em Z st (.frz ns) (.frz ns)
inductive Ems (Z : Nat → Prop) (st : Sto) : List U → List W → Prop
  | nil : Ems Z st [] []
  | cons {u : U} {us : List U} {w : W} {ws : List W} : Em Z st u w → Ems Z st us ws → Ems Z st (u :: us) (w :: ws)
end
section
variable {Z Z' : Nat → Prop} {st st' : Sto}
mutual
theorem Em.step (hz : ∀ n, n < st.length → Z' n → Z n) (hs : ∀ n, n < st.length → ¬ Z n → st'[n]? = st[n]?) : ∀ {u : U} {w : W}, Em Z st u w → Em Z' st' u w
  | _, _, .non => .non
  | _, _, .bl b => .bl b
  | _, _, .int i => .int i
  | _, _, .str x => .str x
  | _, _, .ty n => .ty n
  | _, _, .tup h => .tup (Ems.step hz hs h)
  | _, _, .lst (n := n) h e r => by
    have hn := lt_of_get e
    exact .lst (fun z => h (hz n hn z)) ((hs n hn h).trans e) (Ems.step hz hs r)
  | _, _, .frz ns => .frz ns
theorem Ems.step (hz : ∀ n, n < st.length → Z' n → Z n) (hs : ∀ n, n < st.length → ¬ Z n → st'[n]? = st[n]?) : ∀ {us : List U} {ws : List W}, Ems Z st us ws → Ems Z' st' us ws
  | _, _, .nil => .nil
  | _, _, .cons h r => .cons (Em.step hz hs h) (Ems.step hz hs r)
end
theorem ext_get {g : Sto} {n : Nat} (h : n < st.length) : (st ++ g)[n]? = st[n]? := List.getElem?_append_left h
theorem Em.ext (g : Sto) {u : U} {w : W} (h : Em Z st u w) : Em Z (st ++ g) u w := h.step (fun _ _ z => z) fun _ hn _ => ext_get hn
theorem Ems.ext (g : Sto) {u : List U} {w : List W} (h : Ems Z st u w) : Ems Z (st ++ g) u w := h.step (fun _ _ z => z) fun _ hn _ => ext_get hn
theorem Em.wk (hz : ∀ n, Z' n → Z n) {u : U} {w : W} (h : Em Z st u w) : Em Z' st u w := h.step (fun n _ z => hz n z) fun _ _ _ => rfl
theorem Ems.wk (hz : ∀ n, Z' n → Z n) {u : List U} {w : List W} (h : Ems Z st u w) : Ems Z' st u w := h.step (fun n _ z => hz n z) fun _ _ _ => rfl
mutual
theorem Em.low : ∀ {u : U} {w : W}, Em Z st u w → w.low 0 = true → Em Z' st' u w
  | _, _, .non, _ => .non
  | _, _, .bl b, _ => .bl b
  | _, _, .int i, _ => .int i
  | _, _, .str x, _ => .str x
  | _, _, .ty n, _ => .ty n
  | _, _, .tup h, e => .tup (Ems.low h (by simpa [W.low] using e))
  | _, _, .lst (n := n) h _ r, e => by simp [W.low] at e
  | _, _, .frz ns, _ => .frz ns
theorem Ems.low : ∀ {us : List U} {ws : List W}, Ems Z st us ws → W.lows 0 ws = true → Ems Z' st' us ws
  | _, _, .nil, _ => .nil
  | _, _, .cons h r, e => by
    simp only [W.lows, Bool.and_eq_true] at e
    exact .cons (Em.low h e.1) (Ems.low r e.2)
end
mutual
theorem Em.up {s : Sto} (hz : ∀ n, Z' (st.length + n) → Z n) : ∀ {u : U} {w : W}, Em Z s u w → Em Z' (st ++ s.map (Ob.up st.length)) u (w.up st.length)
  | _, _, .non => .non
  | _, _, .bl b => .bl b
  | _, _, .int i => .int i
  | _, _, .str x => .str x
  | _, _, .ty n => .ty n
  | _, _, .tup h => .tup (Ems.up hz h)
  | _, _, .lst (n := n) (ws := ws) h e r => by
    refine .lst (fun z => h (hz n z)) ?_ (Ems.up hz r)
    rw [List.getElem?_append_right (Nat.le_add_right _ _), Nat.add_sub_cancel_left, List.getElem?_map, e]
    rfl
  | _, _, .frz ns => .frz ns
theorem Ems.up {s : Sto} (hz : ∀ n, Z' (st.length + n) → Z n) : ∀ {us : List U} {ws : List W}, Ems Z s us ws → Ems Z' (st ++ s.map (Ob.up st.length)) us (W.ups st.length ws)
  | _, _, .nil => .nil
  | _, _, .cons h r => .cons (Em.up hz h) (Ems.up hz r)
end
mutual
theorem Em.cut {g : Sto} (hl : st.all (Ob.low st.length) = true) : ∀ {u : U} {w : W}, Em Z (st ++ g) u w → w.low st.length = true → Em Z st u w
  | _, _, .non, _ => .non
  | _, _, .bl b, _ => .bl b
  | _, _, .int i, _ => .int i
  | _, _, .str x, _ => .str x
  | _, _, .ty n, _ => .ty n
  | _, _, .tup h, e => .tup (Ems.cut hl h (by simpa [W.low] using e))
  | _, _, .lst (n := n) (ws := ws) h e r, q => by
    have hn : n < st.length := by simpa [W.low, Nat.blt_eq] using q
    rw [ext_get hn] at e
    refine .lst h e (Ems.cut hl r ?_)
    have := List.all_eq_true.mp hl _ (List.mem_of_getElem? e)
    exact this
  | _, _, .frz ns, _ => .frz ns
theorem Ems.cut {g : Sto} (hl : st.all (Ob.low st.length) = true) : ∀ {us : List U} {ws : List W}, Ems Z (st ++ g) us ws → W.lows st.length ws = true → Ems Z st us ws
  | _, _, .nil, _ => .nil
  | _, _, .cons h r, e => by
    simp only [W.lows, Bool.and_eq_true] at e
    exact .cons (Em.cut hl h e.1) (Ems.cut hl r e.2)
end
theorem Ems.length : ∀ {us : List U} {ws : List W}, Ems Z st us ws → us.length = ws.length
  | _, _, .nil => rfl
  | _, _, .cons _ rs => by simp [Ems.length rs]
theorem Ems.get : ∀ {us : List U} {ws : List W} {i : Nat} {u : U}, Ems Z st us ws → us[i]? = some u → ∃ w, ws[i]? = some w ∧ Em Z st u w
  | _, _, _, _, .nil, e => by simp at e
  | _, _, 0, _, .cons r _, e => by simp at e; subst e; exact ⟨_, rfl, r⟩
  | _, _, i + 1, w, .cons _ t, e => by
    obtain ⟨u, h1, h2⟩ := Ems.get (i := i) (u := w) t (by simpa using e)
    exact ⟨u, by simpa using h1, h2⟩
theorem Ems.append : ∀ {us us' : List U} {ws ws' : List W}, Ems Z st us ws → Ems Z st us' ws' → Ems Z st (us ++ us') (ws ++ ws')
  | _, _, _, _, .nil, s => s
  | _, _, _, _, .cons r t, s => .cons r (Ems.append t s)
theorem Ems.take : ∀ {us : List U} {ws : List W} (n : Nat), Ems Z st us ws → Ems Z st (us.take n) (ws.take n)
  | _, _, 0, _ => .nil
  | _, _, _ + 1, .nil => .nil
  | _, _, n + 1, .cons r t => .cons r (Ems.take n t)
theorem Ems.drop : ∀ {us : List U} {ws : List W} (n : Nat), Ems Z st us ws → Ems Z st (us.drop n) (ws.drop n)
  | _, _, 0, r => r
  | _, _, _ + 1, .nil => .nil
  | _, _, n + 1, .cons _ t => Ems.drop n t
theorem Ems.set {u : U} {w : W} (r : Em Z st u w) : ∀ {us : List U} {ws : List W} (i : Nat), Ems Z st us ws → Ems Z st (us.set i u) (ws.set i w)
  | _, _, _, .nil => .nil
  | _, _, 0, .cons _ t => .cons r t
  | _, _, i + 1, .cons q t => .cons q (Ems.set r i t)
theorem Ems.erase : ∀ {us : List U} {ws : List W} (i : Nat), Ems Z st us ws → Ems Z st (us.eraseIdx i) (ws.eraseIdx i)
  | _, _, _, .nil => .nil
  | _, _, 0, .cons _ t => t
  | _, _, i + 1, .cons q t => .cons q (Ems.erase i t)
theorem Ems.dropLast {us : List U} {ws : List W} (h : Ems Z st us ws) : Ems Z st us.dropLast ws.dropLast := by
  rw [List.dropLast_eq_take, List.dropLast_eq_take, h.length]
  exact h.take _
theorem Ems.reverse : ∀ {us : List U} {ws : List W}, Ems Z st us ws → Ems Z st us.reverse ws.reverse
  | _, _, .nil => .nil
  | _, _, .cons r rs => by
    simp only [List.reverse_cons]
    exact (Ems.reverse rs).append (.cons r .nil)
theorem Ems.ints : ∀ (ns : List Int), Ems Z st (ns.map U.int) (ns.map W.int)
  | [] => .nil
  | n :: ns => .cons (.int n) (Ems.ints ns)
/-- a list that was written while the store grew -/
theorem Ems.snoc {us : List U} {ws : List W} {u : U} {w : W} (h : Ems Z st us ws) (r : Em Z st u w) : Ems Z st (us ++ [u]) (ws ++ [w]) := h.append (.cons r .nil)
end

/-! ### the slots -/
inductive AV where
  | no | val (u : U) | own (b : Bool) (us : List U)
/-- where an own list stands: one of the def's own, or the one that the caller handed in -/
def Ow (r : Option Nat) (M : Nat → Prop) (b : Bool) (n : Nat) : Prop := match b with
  | true => r = some n
  | false => M n
def Zs (O M : Nat → Prop) : Nat → Prop := fun n => O n ∨ M n
def AvR (O : Nat → Prop) (r : Option Nat) (M : Nat → Prop) (st : Sto) (e : Option (Option W)) : AV → Prop
  | .no => True
  | .val u => ∃ w, e = some (some w) ∧ Em (Zs O M) st u w
  | .own b us => ∃ n ws, e = some (some (.ls n)) ∧ Ow r M b n ∧ st[n]? = some (.lst ws) ∧ Ems (Zs O M) st us ws
structure EmA (O : Nat → Prop) (r : Option Nat) (M : Nat → Prop) (st : Sto) (A : List AV) (env : Env') : Prop where
  len : env.length = A.length
  bO : ∀ j, O j → j < st.length
  bM : ∀ j, M j → j < st.length ∧ ¬ O j
  rO : ∀ n, r = some n → O n
  hr : ∀ n, r = some n → ∃ (i : Nat) (us : List U), A[i]? = some (.own true us)
  at_ : ∀ (i : Nat) (a : AV), A[i]? = some a → AvR O r M st env[i]? a
  inj : ∀ (i j : Nat) (b : Bool) (us : List U) (c : Bool) (vs : List U) (n : Nat), A[i]? = some (.own b us) → A[j]? = some (.own c vs) → env[i]? = some (some (.ls n)) → env[j]? = some (some (.ls n)) → i = j
/-- what comes behind -/
structure Nx (r : Option Nat) (M : Nat → Prop) (st : Sto) (M' : Nat → Prop) (st' : Sto) : Prop where
  le : st.length ≤ st'.length
  fr : ∀ j, j < st.length → r ≠ some j → ¬ M j → st'[j]? = st[j]?
  ow : ∀ j, M' j → M j ∨ st.length ≤ j
section
variable {O M M' M1 : Nat → Prop} {r : Option Nat} {st st' s1 : Sto} {A B : List AV} {env env' : Env'}
theorem Nx.refl : Nx r M st M st := ⟨Nat.le_refl _, fun _ _ _ _ => rfl, fun _ h => .inl h⟩
theorem Nx.trans (a : Nx r M st M1 s1) (b : Nx r M1 s1 M' st') : Nx r M st M' st' where
  le := Nat.le_trans a.le b.le
  fr := fun j h1 h2 h3 => (b.fr j (Nat.lt_of_lt_of_le h1 a.le) h2 fun h => (a.ow j h).elim h3 (Nat.not_le_of_lt h1)).trans (a.fr j h1 h2 h3)
  ow := fun j h => (b.ow j h).elim (fun h => a.ow j h) fun h => .inr (Nat.le_trans a.le h)
theorem Nx.ext (g : Sto) : Nx r M st M (st ++ g) := ⟨by simp, fun _ h _ _ => ext_get h, fun _ h => .inl h⟩
theorem Nx.keep (E : EmA O r M st A env) (N : Nx r M st M' st') {u : U} {w : W} (h : Em (Zs O M) st u w) : Em (Zs O M') st' u w := h.step
  (fun n hn z => z.elim .inl fun z => (N.ow n z).elim .inr fun q => absurd q (Nat.not_le_of_lt hn))
  fun n hn z => N.fr n hn (fun e => z (.inl (E.rO n e))) fun e => z (.inr e)
theorem Nx.keeps (E : EmA O r M st A env) (N : Nx r M st M' st') {u : List U} {w : List W} (h : Ems (Zs O M) st u w) : Ems (Zs O M') st' u w := h.step
  (fun n hn z => z.elim .inl fun z => (N.ow n z).elim .inr fun q => absurd q (Nat.not_le_of_lt hn))
  fun n hn z => N.fr n hn (fun e => z (.inl (E.rO n e))) fun e => z (.inr e)
theorem EmA.ext (E : EmA O r M st A env) (g : Sto) : EmA O r M (st ++ g) A env where
  len := E.len
  bO := fun j h => by have := E.bO j h; simp; omega
  bM := fun j h => ⟨by have := (E.bM j h).1; simp; omega, (E.bM j h).2⟩
  rO := E.rO
  hr := E.hr
  at_ := fun i a h => by
    have := E.at_ i a h
    cases a with
    | no => trivial
    | val u => obtain ⟨w, e, q⟩ := this; exact ⟨w, e, q.ext g⟩
    | own b us => obtain ⟨n, ws, e, o, s, q⟩ := this; exact ⟨n, ws, e, o, (ext_get (lt_of_get s)).trans s, q.ext g⟩
  inj := E.inj
theorem EmA.val (E : EmA O r M st A env) {i : Nat} {u : U} (h : A[i]? = some (.val u)) : ∃ w, env[i]? = some (some w) ∧ Em (Zs O M) st u w := E.at_ i _ h
theorem EmA.own (E : EmA O r M st A env) {i : Nat} {b : Bool} {us : List U} (h : A[i]? = some (.own b us)) : ∃ n ws, env[i]? = some (some (.ls n)) ∧ Ow r M b n ∧ st[n]? = some (.lst ws) ∧ Ems (Zs O M) st us ws := E.at_ i _ h
def isOwn : AV → Bool
  | .own _ _ => true
  | _ => false
def isRef : AV → Bool
  | .own true _ => true
  | _ => false
theorem ref_of {A : List AV} (h : ∃ (i : Nat) (us : List U), A[i]? = some (.own true us)) : A.any isRef = true := by
  obtain ⟨i, us, e⟩ := h
  exact List.any_eq_true.mpr ⟨_, List.mem_of_getElem? e, rfl⟩
theorem EmA.noref (E : EmA O r M st A env) (h : A.any isRef = false) : r = none := by
  cases hr : r with
  | none => rfl
  | some n =>
    have := ref_of (E.hr n hr)
    rw [h] at this; cases this
/-- a slot gets a value -/
theorem EmA.set (E : EmA O r M st A env) {u : U} {w : W} (h : Em (Zs O M) st u w) (i : Nat) (hn : ∀ us : List U, A[i]? ≠ some (.own true us)) : EmA O r M st (A.set i (.val u)) (env.set i (some w)) where
  len := by simp [E.len]
  bO := E.bO
  bM := E.bM
  rO := E.rO
  hr := fun n e => by
    obtain ⟨j, us, hj⟩ := E.hr n e
    refine ⟨j, us, ?_⟩
    rw [List.getElem?_set_ne]
    · exact hj
    · rintro rfl; exact hn us hj
  at_ := fun j a e => by
    by_cases hj : i = j
    · subst hj
      by_cases hi : i < A.length
      · rw [List.getElem?_set_self hi] at e
        cases e
        exact ⟨w, List.getElem?_set_self (by rw [E.len]; exact hi), h⟩
      · rw [List.getElem?_eq_none (by simpa using hi)] at e; cases e
    · rw [List.getElem?_set_ne hj] at e
      rw [List.getElem?_set_ne hj]
      exact E.at_ j a e
  inj := fun j k b us c vs n h1 h2 h3 h4 => by
    have ne : ∀ {l : Nat} {b : Bool} {us : List U}, (A.set i (.val u))[l]? = some (.own b us) → i ≠ l ∧ A[l]? = some (.own b us) := by
      intro l b us q
      by_cases hl : i = l
      · subst hl
        by_cases hi : i < A.length
        · rw [List.getElem?_set_self hi] at q; cases q
        · rw [List.getElem?_eq_none (by simpa using hi)] at q; cases q
      · rw [List.getElem?_set_ne hl] at q; exact ⟨hl, q⟩
    obtain ⟨n1, q1⟩ := ne h1
    obtain ⟨n2, q2⟩ := ne h2
    rw [List.getElem?_set_ne n1] at h3
    rw [List.getElem?_set_ne n2] at h4
    exact E.inj j k b us c vs n q1 q2 h3 h4
/-- a slot gets a new list -/
theorem EmA.setN (E : EmA O r M st A env) {us : List U} {ws : List W} {n : Nat} {g : Sto} (hn : st.length ≤ n) (hg : (st ++ g)[n]? = some (.lst ws)) (h : Ems (fun j => Zs O M j ∨ j = n) (st ++ g) us ws) (i : Nat) (hi : ∀ us : List U, A[i]? ≠ some (.own true us)) : EmA O r (fun j => M j ∨ j = n) (st ++ g) (A.set i (.own false us)) (env.set i (some (.ls n))) where
  len := by simp [E.len]
  bO := fun j h => by have := E.bO j h; simp; omega
  bM := fun j q => by
    rcases q with q | q
    · exact ⟨by have := (E.bM j q).1; simp; omega, (E.bM j q).2⟩
    · subst q
      exact ⟨lt_of_get hg, fun z => absurd (E.bO j z) (by omega)⟩
  rO := E.rO
  hr := fun m e => by
    obtain ⟨j, us, hj⟩ := E.hr m e
    refine ⟨j, us, ?_⟩
    rw [List.getElem?_set_ne]
    · exact hj
    · rintro rfl; exact hi us hj
  at_ := fun j a e => by
    by_cases hj : i = j
    · subst hj
      by_cases hl : i < A.length
      · rw [List.getElem?_set_self hl] at e
        cases e
        exact ⟨n, ws, List.getElem?_set_self (by rw [E.len]; exact hl), .inr rfl, hg, h.wk fun m z => z.elim (fun z => .inl (.inl z)) fun z => z.elim (fun z => .inl (.inr z)) .inr⟩
      · rw [List.getElem?_eq_none (by simpa using hl)] at e; cases e
    · rw [List.getElem?_set_ne hj] at e
      rw [List.getElem?_set_ne hj]
      have hz : ∀ m, m < st.length → Zs O (fun j => M j ∨ j = n) m → Zs O M m := fun m hm z => z.elim .inl fun z => z.elim .inr fun z => absurd hm (by omega)
      have hs : ∀ m, m < st.length → ¬ Zs O M m → (st ++ g)[m]? = st[m]? := fun m hm _ => ext_get hm
      have := E.at_ j a e
      cases a with
      | no => trivial
      | val u => obtain ⟨w, e, q⟩ := this; exact ⟨w, e, q.step hz hs⟩
      | own b vs =>
        obtain ⟨k, xs, e, o, s, q⟩ := this
        refine ⟨k, xs, e, ?_, (ext_get (lt_of_get s)).trans s, q.step hz hs⟩
        cases b with
        | true => exact o
        | false => exact .inl o
  inj := fun j k b xs c vs m h1 h2 h3 h4 => by
    have old : ∀ {l : Nat} {b : Bool} {us : List U}, A[l]? = some (.own b us) → env[l]? = some (some (.ls m)) → m ≠ n := by
      rintro l b us q e rfl
      obtain ⟨k, ws, e2, o, s, _⟩ := E.own q
      rw [e] at e2
      cases e2
      have := lt_of_get s
      omega
    have at_i : ∀ {b : Bool} {xs : List U}, (A.set i (.own false us))[i]? = some (.own b xs) → (env.set i (some (.ls n)))[i]? = some (some (.ls m)) → m = n := by
      intro b xs q e
      have hl : i < A.length := by
        by_cases hl : i < A.length
        · exact hl
        · rw [List.getElem?_eq_none (by simpa using hl)] at q; cases q
      rw [List.getElem?_set_self (by rw [E.len]; exact hl)] at e
      cases e; rfl
    by_cases hj : i = j
    · by_cases hk : i = k
      · exact hj.symm.trans hk
      · subst hj
        have e1 := at_i h1 h3
        rw [List.getElem?_set_ne hk] at h2 h4
        exact absurd e1 (old h2 h4)
    · by_cases hk : i = k
      · subst hk
        have e1 := at_i h2 h4
        rw [List.getElem?_set_ne hj] at h1 h3
        exact absurd e1 (old h1 h3)
      · rw [List.getElem?_set_ne hj] at h1 h3
        rw [List.getElem?_set_ne hk] at h2 h4
        exact E.inj j k b xs c vs m h1 h2 h3 h4
/-- an own list is written -/
theorem EmA.put (E : EmA O r M st A env) {i n : Nat} {b : Bool} {us us' : List U} {ws' : List W} (hi : A[i]? = some (.own b us)) (he : env[i]? = some (some (.ls n))) (h : Ems (Zs O M) st us' ws') : EmA O r M (st.set n (.lst ws')) (A.set i (.own b us')) env := by
  obtain ⟨n', ws, e1, o, s, q⟩ := E.own hi
  rw [he] at e1
  cases e1
  have hn := lt_of_get s
  have hZ : Zs O M n := by
    cases b with
    | true => exact .inl (E.rO n o)
    | false => exact .inr o
  have hs : ∀ m, m < st.length → ¬ Zs O M m → (st.set n (.lst ws'))[m]? = st[m]? := fun m _ z => List.getElem?_set_ne (by rintro rfl; exact z hZ)
  have hl : i < A.length := by
    by_cases hl : i < A.length
    · exact hl
    · rw [List.getElem?_eq_none (by omega)] at hi; cases hi
  have back : ∀ {l : Nat} {c : Bool} {xs : List U}, (A.set i (.own b us'))[l]? = some (.own c xs) → ∃ ys, A[l]? = some (.own c ys) := by
    intro l c xs q
    by_cases hj : i = l
    · subst hj
      rw [List.getElem?_set_self hl] at q
      cases q
      exact ⟨us, hi⟩
    · rw [List.getElem?_set_ne hj] at q
      exact ⟨xs, q⟩
  exact {
    len := by simp [E.len]
    bO := fun j h => by rw [List.length_set]; exact E.bO j h
    bM := fun j h => by rw [List.length_set]; exact E.bM j h
    rO := E.rO
    hr := fun m e => by
      obtain ⟨j, vs, hj⟩ := E.hr m e
      by_cases h' : i = j
      · subst h'
        rw [hi] at hj
        cases hj
        exact ⟨i, us', List.getElem?_set_self hl⟩
      · exact ⟨j, vs, by rw [List.getElem?_set_ne h']; exact hj⟩
    at_ := fun j a e => by
      by_cases hj : i = j
      · subst hj
        rw [List.getElem?_set_self hl] at e
        cases e
        exact ⟨n, ws', he, o, List.getElem?_set_self hn, h.step (fun _ _ z => z) hs⟩
      · rw [List.getElem?_set_ne hj] at e
        have := E.at_ j a e
        cases a with
        | no => trivial
        | val u => obtain ⟨w, e, q⟩ := this; exact ⟨w, e, q.step (fun _ _ z => z) hs⟩
        | own c vs =>
          obtain ⟨k, xs, e2, o2, s2, q2⟩ := this
          refine ⟨k, xs, e2, o2, ?_, q2.step (fun _ _ z => z) hs⟩
          rw [List.getElem?_set_ne]
          · exact s2
          · rintro rfl
            exact hj (E.inj i j b us c vs _ hi e he e2)
    inj := fun j k c xs d vs m h1 h2 h3 h4 => by
      obtain ⟨y1, q1⟩ := back h1
      obtain ⟨y2, q2⟩ := back h2
      exact E.inj j k c y1 d y2 m q1 q2 h3 h4 }
theorem Nx.put (E : EmA O r M st A env) {i n : Nat} {b : Bool} {us : List U} {ob : Ob} (hi : A[i]? = some (.own b us)) (he : env[i]? = some (some (.ls n))) : Nx r M st M (st.set n ob) where
  le := by rw [List.length_set]; exact Nat.le_refl _
  fr := fun j h1 h2 h3 => by
    obtain ⟨n', ws, e1, o, s, q⟩ := E.own hi
    rw [he] at e1
    cases e1
    refine List.getElem?_set_ne ?_
    rintro rfl
    cases b with
    | true => exact h2 o
    | false => exact h3 o
  ow := fun _ h => .inl h
/-- less is known; a def's own list may become a value -/
inductive Wk : List AV → List AV → Prop
  | nil : Wk [] []
  | keep {a : AV} {A B : List AV} : Wk A B → Wk (a :: A) (a :: B)
  | drop {a : AV} {A B : List AV} (h : isRef a = false) : Wk A B → Wk (a :: A) (.no :: B)
  | frz {us : List U} {A B : List AV} : Wk A B → Wk (.own false us :: A) (.val (.lst us) :: B)
theorem Wk.refl : ∀ A : List AV, Wk A A
  | [] => .nil
  | _ :: A => .keep (Wk.refl A)
theorem Wk.len : ∀ {A B : List AV}, Wk A B → A.length = B.length
  | _, _, .nil => rfl
  | _, _, .keep h => by simp [Wk.len h]
  | _, _, .drop _ h => by simp [Wk.len h]
  | _, _, .frz h => by simp [Wk.len h]
theorem Wk.at_ : ∀ {A B : List AV}, Wk A B → ∀ (i : Nat) (b : AV), B[i]? = some b → ∃ a, A[i]? = some a ∧ (a = b ∨ (b = .no ∧ isRef a = false) ∨ ∃ us, a = .own false us ∧ b = .val (.lst us))
  | _, _, .nil, i, b, h => by simp at h
  | _, _, .keep w, 0, b, h => by simp at h; subst h; exact ⟨_, rfl, .inl rfl⟩
  | _, _, .drop q w, 0, b, h => by simp at h; subst h; exact ⟨_, rfl, .inr (.inl ⟨rfl, q⟩)⟩
  | _, _, .frz w, 0, b, h => by simp at h; subst h; exact ⟨_, rfl, .inr (.inr ⟨_, rfl, rfl⟩)⟩
  | _, _, .keep w, i + 1, b, h => by simpa using Wk.at_ w i b (by simpa using h)
  | _, _, .drop q w, i + 1, b, h => by simpa using Wk.at_ w i b (by simpa using h)
  | _, _, .frz w, i + 1, b, h => by simpa using Wk.at_ w i b (by simpa using h)
theorem Wk.ref : ∀ {A B : List AV}, Wk A B → ∀ (i : Nat) (us : List U), A[i]? = some (.own true us) → B[i]? = some (.own true us)
  | _, _, .nil, i, us, h => by simp at h
  | _, _, .keep w, 0, us, h => h
  | _, _, .drop q w, 0, us, h => by simp at h; subst h; cases q
  | _, _, .frz w, 0, us, h => by simp at h
  | _, _, .keep w, i + 1, us, h => by simpa using Wk.ref w i us (by simpa using h)
  | _, _, .drop q w, i + 1, us, h => by simpa using Wk.ref w i us (by simpa using h)
  | _, _, .frz w, i + 1, us, h => by simpa using Wk.ref w i us (by simpa using h)
/-- the lists that B still owns -/
def OwnM (B : List AV) (env : Env') (M : Nat → Prop) : Nat → Prop := fun n => M n ∧ ∃ (i : Nat) (us : List U), B[i]? = some (.own false us) ∧ env[i]? = some (some (.ls n))
theorem EmA.weak (E : EmA O r M st A env) (w : Wk A B) : EmA O r (OwnM B env M) st B env := by
  have hz : ∀ m, Zs O (OwnM B env M) m → Zs O M m := fun m z => z.elim .inl fun z => .inr z.1
  have back : ∀ {l : Nat} {c : Bool} {xs : List U}, B[l]? = some (.own c xs) → A[l]? = some (.own c xs) := by
    intro l c xs q
    obtain ⟨a, h1, h2 | ⟨h2, _⟩ | ⟨us, h2, h3⟩⟩ := w.at_ l _ q
    · rw [h1, h2]
    · cases h2
    · cases h3
  exact {
    len := E.len.trans w.len
    bO := E.bO
    bM := fun j h => E.bM j h.1
    rO := E.rO
    hr := fun n e => by
      obtain ⟨i, us, h⟩ := E.hr n e
      exact ⟨i, us, w.ref i us h⟩
    at_ := fun i b h => by
      obtain ⟨a, h1, h2⟩ := w.at_ i b h
      have q := E.at_ i a h1
      rcases h2 with h2 | ⟨h2, _⟩ | ⟨us, h2, h3⟩
      · subst h2
        cases a with
        | no => trivial
        | val u => obtain ⟨x, e, q⟩ := q; exact ⟨x, e, q.wk hz⟩
        | own c us =>
          obtain ⟨n, ws, e, o, s, q⟩ := q
          refine ⟨n, ws, e, ?_, s, q.wk hz⟩
          cases c with
          | true => exact o
          | false => exact ⟨o, i, us, h, e⟩
      · subst h2; trivial
      · subst h2 h3
        obtain ⟨n, ws, e, o, s, q⟩ := q
        refine ⟨.ls n, e, .lst ?_ s (q.wk hz)⟩
        rintro (z | ⟨_, j, vs, hj, ej⟩)
        · exact (E.bM n o).2 z
        · have := E.inj i j false us false vs n h1 (back hj) e ej
          subst this
          rw [h] at hj
          cases hj
    inj := fun i j b us c vs n h1 h2 h3 h4 => E.inj i j b us c vs n (back h1) (back h2) h3 h4 }
theorem Nx.weak : Nx r M st (OwnM B env M) st := ⟨Nat.le_refl _, fun _ _ _ _ => rfl, fun _ h => .inl h.1⟩
end
end Rx

/-! UxB: what the operators do to values without a store. -/
namespace Rx
open PySem PySem.Spec PyProof.Rows L2
noncomputable section
/-- as Em, but that the value itself may be a list of Z -/
def EmB (Z : Nat → Prop) (st : Sto) (u : U) (w : W) : Prop := Em Z st u w ∨ ∃ us n ws, u = .lst us ∧ w = .ls n ∧ st[n]? = some (.lst ws) ∧ Ems Z st us ws
section
variable {Z : Nat → Prop} {st : Sto}
theorem Em.b {u : U} {w : W} (h : Em Z st u w) : EmB Z st u w := .inl h
theorem EmB.ext (g : Sto) {u : U} {w : W} (h : EmB Z st u w) : EmB Z (st ++ g) u w := by
  rcases h with h | ⟨us, n, ws, rfl, rfl, e, r⟩
  · exact .inl (h.ext g)
  · exact .inr ⟨us, n, ws, rfl, rfl, (ext_get (lt_of_get e)).trans e, r.ext g⟩
theorem emb_int {i : Int} {w : W} (h : EmB Z st (.int i) w) : w = .int i := by
  rcases h with h | ⟨us, n, ws, h, _⟩
  · cases h; rfl
  · cases h
theorem emb_bl {b : Bool} {w : W} (h : EmB Z st (.bl b) w) : w = .bl b := by
  rcases h with h | ⟨us, n, ws, h, _⟩
  · cases h; rfl
  · cases h
theorem emb_non {w : W} (h : EmB Z st .non w) : w = .non := by
  rcases h with h | ⟨us, n, ws, h, _⟩
  · cases h; rfl
  · cases h
theorem emb_str {x : Str} {w : W} (h : EmB Z st (.str x) w) : w = .str x := by
  rcases h with h | ⟨us, n, ws, h, _⟩
  · cases h; rfl
  · cases h
theorem emb_tup {us : List U} {w : W} (h : EmB Z st (.tup us) w) : ∃ ws, w = .tup ws ∧ Ems Z st us ws := by
  rcases h with h | ⟨vs, n, ws, h, _⟩
  · cases h with
    | tup h => exact ⟨_, rfl, h⟩
  · cases h
theorem emb_lst {us : List U} {w : W} (h : EmB Z st (.lst us) w) : ∃ n ws, w = .ls n ∧ st[n]? = some (.lst ws) ∧ Ems Z st us ws := by
  rcases h with h | ⟨vs, n, ws, h1, h2, h3, h4⟩
  · cases h with
    | lst h e r => exact ⟨_, _, rfl, e, r⟩
  · cases h1
    exact ⟨n, ws, h2, h3, h4⟩
theorem emb_frz {ns : List Int} {w : W} (h : EmB Z st (.frz ns) w) : w = .frz ns := by
  rcases h with h | ⟨vs, n, ws, h1, h2, h3, h4⟩
  · cases h; rfl
  · cases h1
/-- the items -/
def seqU : U → Option (List U)
  | .tup us => some us
  | .lst us => some us
  | .frz ns => some (ns.map .int)
  | _ => none
theorem seq_em {u : U} {w : W} {us : List U} (h : EmB Z st u w) (e : seqU u = some us) : ∃ ws, seqW st w = some ws ∧ Ems Z st us ws := by
  cases u with
  | tup xs =>
    cases e
    obtain ⟨ws, rfl, r⟩ := emb_tup h
    exact ⟨ws, rfl, r⟩
  | lst xs =>
    cases e
    obtain ⟨n, ws, rfl, e, r⟩ := emb_lst h
    exact ⟨ws, by simp [seqW, e], r⟩
  | frz ns =>
    cases e
    have := emb_frz h; subst this
    exact ⟨_, rfl, .ints ns⟩
  | _ => cases e

/-! ### whole numbers -/
def eqI : Int → Int → Bool
  | .ofNat a, .ofNat b => Nat.beq a b
  | .negSucc a, .negSucc b => Nat.beq a b
  | _, _ => false
theorem eqI_eq (i j : Int) : eqI i j = (i == j) := by
  rw [show (i == j) = decide (i = j) from rfl]
  cases i with
  | ofNat a =>
    cases j with
    | ofNat b =>
      show Nat.beq a b = _
      by_cases h : a = b
      · subst h; simp [Nat.beq_refl]
      · rw [decide_eq_false (by intro q; exact h (Int.ofNat.inj q))]
        cases e : Nat.beq a b with
        | true => exact absurd (Nat.eq_of_beq_eq_true e) h
        | false => rfl
    | negSucc b => exact (decide_eq_false (by intro q; cases q)).symm
  | negSucc a =>
    cases j with
    | ofNat b => exact (decide_eq_false (by intro q; cases q)).symm
    | negSucc b =>
      show Nat.beq a b = _
      by_cases h : a = b
      · subst h; simp [Nat.beq_refl]
      · rw [decide_eq_false (by intro q; exact h (Int.negSucc.inj q))]
        cases e : Nat.beq a b with
        | true => exact absurd (Nat.eq_of_beq_eq_true e) h
        | false => rfl
theorem bltD (a b : Nat) : Nat.blt a b = decide (a < b) := by
  cases e : Nat.blt a b with
  | true => exact (decide_eq_true (by simpa [Nat.blt_eq] using e)).symm
  | false => exact (decide_eq_false (fun h => by rw [(Nat.blt_eq).mpr h] at e; cases e)).symm
def ltF : Int → Int → Bool
  | .ofNat a, .ofNat b => Nat.blt a b
  | .negSucc a, .negSucc b => Nat.blt b a
  | .negSucc _, .ofNat _ => true
  | .ofNat _, .negSucc _ => false
theorem ltF_eq (i j : Int) : ltF i j = decide (i < j) := by
  cases i with
  | ofNat a =>
    cases j with
    | ofNat b =>
      show Nat.blt a b = _
      rw [bltD]
      exact decide_eq_decide.mpr ⟨fun h => Int.ofNat_lt.mpr h, fun h => Int.ofNat_lt.mp h⟩
    | negSucc b => exact (decide_eq_false (by simp only [Int.ofNat_eq_natCast]; omega)).symm
  | negSucc a =>
    cases j with
    | ofNat b => exact (decide_eq_true (by simp only [Int.ofNat_eq_natCast]; omega)).symm
    | negSucc b =>
      show Nat.blt b a = _
      rw [bltD]
      exact decide_eq_decide.mpr (by omega)
def leF (i j : Int) : Bool := !ltF j i
theorem leF_eq (i j : Int) : leF i j = decide (i ≤ j) := by
  unfold leF
  rw [ltF_eq, Bool.eq_iff_iff]
  simp
def gtF (i j : Int) : Bool := ltF j i
def geF (i j : Int) : Bool := leF j i
theorem gtF_eq (i j : Int) : gtF i j = decide (j < i) := ltF_eq j i
theorem geF_eq (i j : Int) : geF i j = decide (j ≤ i) := leF_eq j i

/-! ### data -/
mutual
def toD : U → PyData
  | .non => .none
  | .bl b => .bool b
  | .int i => .int i
  | .str x => .str x
  | .ty _ => .none
  | .tup us => .tuple (toDs us)
  | .lst us => .list (toDs us)
  | .frz ns => .list (ns.map .int)
def toDs : List U → List PyData
  | [] => []
  | u :: us => toD u :: toDs us
end
mutual
/-- data, at most n deep -/
def okU : U → Nat → Bool
  | .non, n => Nat.blt 0 n
  | .bl _, n => Nat.blt 0 n
  | .int _, n => Nat.blt 0 n
  | .str x, n => cond (Nat.blt 0 n) (PyData.strOk x) false
  | .ty _, _ => false
  | .tup us, n => cond (Nat.blt 0 n) (okUs us (n - 1)) false
  | .lst us, n => cond (Nat.blt 0 n) (okUs us (n - 1)) false
  | .frz _, _ => false
def okUs : List U → Nat → Bool
  | [], _ => true
  | u :: us, n => cond (okU u n) (okUs us n) false
end
theorem cond_tt {a b : Bool} (h : cond a b false = true) : a = true ∧ b = true := by
  cases a
  · cases h
  · exact ⟨rfl, h⟩
theorem blt0 {n : Nat} (h : Nat.blt 0 n = true) : ∃ m, n = m + 1 := by
  cases n with
  | zero => cases h
  | succ m => exact ⟨m, rfl⟩
theorem toDs_ints : ∀ ns : List Int, toDs (ns.map .int) = ns.map PyData.int
  | [] => rfl
  | n :: ns => by
    show toD (.int n) :: toDs (ns.map .int) = _
    rw [toDs_ints ns]
    rfl
mutual
theorem dat_em : ∀ {u : U} {w : W} {n : Nat}, Em Z st u w → okU u n = true → dat st n w = some (toD u)
  | _, _, n, .non, h => by
    obtain ⟨m, rfl⟩ := blt0 (by simpa only [okU] using h)
    rfl
  | _, _, n, .bl b, h => by
    obtain ⟨m, rfl⟩ := blt0 (by simpa only [okU] using h)
    rfl
  | _, _, n, .int b, h => by
    obtain ⟨m, rfl⟩ := blt0 (by simpa only [okU] using h)
    rfl
  | _, _, n, .str x, h => by
    obtain ⟨h1, h2⟩ := cond_tt (by simpa only [okU] using h)
    obtain ⟨m, rfl⟩ := blt0 h1
    show (if PyData.strOk x = true then some (PyData.str x) else none) = _
    rw [if_pos h2]
    rfl
  | _, _, n, .ty b, h => by simp [okU] at h
  | _, _, n, .tup r, h => by
    obtain ⟨h1, h2⟩ := cond_tt (by simpa only [okU] using h)
    obtain ⟨m, rfl⟩ := blt0 h1
    have h3 : okUs _ m = true := h2
    unfold dat
    simp only []
    rw [dat_ems r h3]
    simp [toD]
  | _, _, n, .lst z e r, h => by
    obtain ⟨h1, h2⟩ := cond_tt (by simpa only [okU] using h)
    obtain ⟨m, rfl⟩ := blt0 h1
    have h3 : okUs _ m = true := h2
    unfold dat
    simp only [e]
    rw [dat_ems r h3]
    simp [toD]
  | _, _, n, .frz ns, h => by simp [okU] at h
theorem dat_ems : ∀ {us : List U} {ws : List W} {n : Nat}, Ems Z st us ws → okUs us n = true → datAll (dat st n) ws = some (toDs us)
  | _, _, _, .nil, _ => rfl
  | _, _, n, .cons h r, e => by
    obtain ⟨h1, h2⟩ := cond_tt (by simpa only [okUs] using e)
    unfold datAll
    rw [dat_em h h1, dat_ems r h2]
    simp [toDs]
end
theorem dat_emb {u : U} {w : W} {n : Nat} (h : EmB Z st u w) (e : okU u n = true) : dat st n w = some (toD u) := by
  rcases h with h | ⟨us, k, ws, rfl, rfl, e1, r⟩
  · exact dat_em h e
  · obtain ⟨h1, h2⟩ := cond_tt (by simpa only [okU] using e)
    obtain ⟨m, rfl⟩ := blt0 h1
    have h3 : okUs _ m = true := h2
    unfold dat
    simp only [e1]
    rw [dat_ems r h3]
    simp [toD]
mutual
def eqvU : U → U → Bool
  | .int i, v => match v with
    | .int j => eqI i j
    | .bl b => eqI i (cond b 1 0)
    | _ => false
  | .tup us, v => match v with
    | .tup vs => eqvUs us vs
    | _ => false
  | .lst us, v => match v with
    | .lst vs => eqvUs us vs
    | _ => false
  | .non, v => match v with
    | .non => true
    | _ => false
  | .bl a, v => match v with
    | .bl b => a == b
    | .int j => eqI (cond a 1 0) j
    | _ => false
  | .str x, v => match v with
    | .str y => x == y
    | _ => false
  | .ty _, _ => false
  | .frz _, _ => false
def eqvUs : List U → List U → Bool
  | [], v => match v with
    | [] => true
    | _ => false
  | x :: xs, v => match v with
    | y :: ys => cond (eqvU x y) (eqvUs xs ys) false
    | [] => false
end
theorem cond_and (a b : Bool) : cond a b false = (a && b) := by cases a <;> rfl
mutual
theorem eqv_toD : ∀ (u v : U) (n m : Nat), okU u n = true → okU v m = true → PyData.eqv (toD u) (toD v) = eqvU u v
  | .ty _, _, _, _, h, _ => by simp [okU] at h
  | _, .ty _, _, _, _, h => by simp [okU] at h
  | .frz _, _, _, _, h, _ => by simp [okU] at h
  | _, .frz _, _, _, _, h => by simp [okU] at h
  | .tup us, .tup vs, n, m, h, k => by
    obtain ⟨_, h2⟩ := cond_tt (by simpa only [okU] using h)
    obtain ⟨_, k2⟩ := cond_tt (by simpa only [okU] using k)
    simp only [toD, PyData.eqv, eqvU]
    exact eqvs_toD us vs _ _ h2 k2
  | .lst us, .lst vs, n, m, h, k => by
    obtain ⟨_, h2⟩ := cond_tt (by simpa only [okU] using h)
    obtain ⟨_, k2⟩ := cond_tt (by simpa only [okU] using k)
    simp only [toD, PyData.eqv, eqvU]
    exact eqvs_toD us vs _ _ h2 k2
  | .int i, .int j, _, _, _, _ => by simp only [toD, PyData.eqv, eqvU, eqI_eq]
  | .int i, .bl b, _, _, _, _ => by
    simp only [toD, PyData.eqv, eqvU, eqI_eq]
    cases b <;> rfl
  | .bl a, .int j, _, _, _, _ => by
    simp only [toD, PyData.eqv, eqvU, eqI_eq]
    cases a <;> rfl
  | .bl a, .bl b, _, _, _, _ => by simp only [toD, PyData.eqv, eqvU]
  | .str a, .str b, _, _, _, _ => by simp only [toD, PyData.eqv, eqvU]
  | .non, .non, _, _, _, _ => by simp only [toD, PyData.eqv, eqvU]
  | .non, .bl _, _, _, _, _ | .non, .int _, _, _, _, _ | .non, .str _, _, _, _, _ | .non, .tup _, _, _, _, _ | .non, .lst _, _, _, _, _ => by simp only [toD, PyData.eqv, eqvU]
  | .bl _, .non, _, _, _, _ | .bl _, .str _, _, _, _, _ | .bl _, .tup _, _, _, _, _ | .bl _, .lst _, _, _, _, _ => by simp only [toD, PyData.eqv, eqvU]
  | .int _, .non, _, _, _, _ | .int _, .str _, _, _, _, _ | .int _, .tup _, _, _, _, _ | .int _, .lst _, _, _, _, _ => by simp only [toD, PyData.eqv, eqvU]
  | .str _, .non, _, _, _, _ | .str _, .bl _, _, _, _, _ | .str _, .int _, _, _, _, _ | .str _, .tup _, _, _, _, _ | .str _, .lst _, _, _, _, _ => by simp only [toD, PyData.eqv, eqvU]
  | .tup _, .non, _, _, _, _ | .tup _, .bl _, _, _, _, _ | .tup _, .int _, _, _, _, _ | .tup _, .str _, _, _, _, _ | .tup _, .lst _, _, _, _, _ => by simp only [toD, PyData.eqv, eqvU]
  | .lst _, .non, _, _, _, _ | .lst _, .bl _, _, _, _, _ | .lst _, .int _, _, _, _, _ | .lst _, .str _, _, _, _, _ | .lst _, .tup _, _, _, _, _ => by simp only [toD, PyData.eqv, eqvU]
theorem eqvs_toD : ∀ (us vs : List U) (n m : Nat), okUs us n = true → okUs vs m = true → PyData.eqvAll (toDs us) (toDs vs) = eqvUs us vs
  | [], [], _, _, _, _ => by simp only [toDs, PyData.eqvAll, eqvUs]
  | [], _ :: _, _, _, _, _ => by simp only [toDs, PyData.eqvAll, eqvUs]
  | _ :: _, [], _, _, _, _ => by simp only [toDs, PyData.eqvAll, eqvUs]
  | u :: us, v :: vs, n, m, h, k => by
    obtain ⟨h1, h2⟩ := cond_tt (by simpa only [okUs] using h)
    obtain ⟨k1, k2⟩ := cond_tt (by simpa only [okUs] using k)
    simp only [toDs, PyData.eqvAll, eqvUs]
    rw [eqv_toD u v _ _ h1 k1, eqvs_toD us vs _ _ h2 k2, cond_and]
end
def eqU (u v : U) : Option Bool := cond (okU u 12) (cond (okU v 12) (some (eqvU u v)) none) none
def neU (u v : U) : Option Bool := cond (okU u 12) (cond (okU v 12) (some (!eqvU u v)) none) none
theorem cond_so {α : Type} {a : Bool} {x : Option α} {v : α} (h : cond a x none = some v) : a = true ∧ x = some v := by
  cases a
  · cases h
  · exact ⟨rfl, h⟩
/-- an operator with a truth value -/
def OPB (f : W → W → Sto → R W) (p : U → U → Option Bool) : Prop := ∀ a b v, p a b = some v → ∀ (Z : Nat → Prop) st wa wb, EmB Z st a wa → EmB Z st b wb → f wa wb st = .ok (.bl v) st
theorem ob_eq : OPB (fEq false) eqU := by
  intro a b v e Z st wa wb ha hb
  obtain ⟨h1, e⟩ := cond_so e
  obtain ⟨h2, e⟩ := cond_so e
  cases e
  unfold fEq
  rw [dat_emb ha (n := deep) h1, dat_emb hb (n := deep) h2]
  simp only []
  rw [eqv_toD a b _ _ h1 h2]
  simp
theorem ob_ne : OPB (fEq true) neU := by
  intro a b v e Z st wa wb ha hb
  obtain ⟨h1, e⟩ := cond_so e
  obtain ⟨h2, e⟩ := cond_so e
  cases e
  unfold fEq
  rw [dat_emb ha (n := deep) h1, dat_emb hb (n := deep) h2]
  simp only []
  rw [eqv_toD a b _ _ h1 h2]
  simp
def anyEq (u : U) : List U → Bool
  | [] => false
  | x :: xs => cond (eqvU x u) true (anyEq u xs)
theorem anyEq_ok {u : U} {n : Nat} (h : okU u n = true) : ∀ (xs : List U) (m : Nat), okUs xs m = true → (toDs xs).any (fun z => PyData.eqv z (toD u)) = anyEq u xs
  | [], _, _ => rfl
  | x :: xs, m, e => by
    obtain ⟨k1, k2⟩ := cond_tt (by simpa only [okUs] using e)
    simp only [toDs, List.any_cons, anyEq]
    rw [anyEq_ok h xs m k2, eqv_toD x u _ _ k1 h]
    cases eqvU x u <;> rfl
def inU (u v : U) : Option Bool := match v with
  | .tup xs => cond (okU u 12) (cond (okUs xs 11) (some (anyEq u xs)) none) none
  | .lst xs => cond (okU u 12) (cond (okUs xs 11) (some (anyEq u xs)) none) none
  | _ => none
def notInU (u v : U) : Option Bool := bnd (inU u v) fun b => some (!b)
theorem fIn_run {neg : Bool} {a b : U} {v : Bool} (e : inU a b = some v) {wa wb : W} (ha : EmB Z st a wa) (hb : EmB Z st b wb) : fIn neg wa wb st = .ok (.bl (xor neg v)) st := by
  cases b with
  | tup xs =>
    obtain ⟨h1, e⟩ := cond_so e
    obtain ⟨h2, e⟩ := cond_so e
    cases e
    unfold fIn
    rw [dat_emb ha (n := deep) h1, dat_emb hb (n := deep) (by simp only [okU]; rw [show Nat.blt 0 deep = true from rfl]; exact h2)]
    simp only [toD]
    rw [anyEq_ok h1 xs _ h2]
  | lst xs =>
    obtain ⟨h1, e⟩ := cond_so e
    obtain ⟨h2, e⟩ := cond_so e
    cases e
    unfold fIn
    rw [dat_emb ha (n := deep) h1, dat_emb hb (n := deep) (by simp only [okU]; rw [show Nat.blt 0 deep = true from rfl]; exact h2)]
    simp only [toD]
    rw [anyEq_ok h1 xs _ h2]
  | _ => cases e
theorem ob_in : OPB (fIn false) inU := by
  intro a b v e Z st wa wb ha hb
  rw [fIn_run e ha hb]
  simp
theorem ob_notin : OPB (fIn true) notInU := by
  intro a b v e Z st wa wb ha hb
  obtain ⟨c, e1, e2⟩ := bnd_ok e
  cases e2
  rw [fIn_run e1 ha hb]
  simp
def isU : U → U → Option Bool
  | .bl a, .bl b => some (a == b)
  | .non, .non => some true
  | _, .non => some false
  | _, _ => none
def isNotU (u v : U) : Option Bool := bnd (isU u v) fun b => some (!b)
theorem fIs_run {neg : Bool} {a b : U} {v : Bool} (e : isU a b = some v) {wa wb : W} (ha : EmB Z st a wa) (hb : EmB Z st b wb) : fIs neg wa wb st = .ok (.bl (xor neg v)) st := by
  cases b with
  | bl b =>
    cases a with
    | bl a =>
      cases e
      have := emb_bl ha; subst this
      have := emb_bl hb; subst this
      show R.ok (W.bl (xor neg (decide (a = b)))) st = _
      cases a <;> cases b <;> rfl
    | _ => cases e
  | non =>
    have := emb_non hb; subst this
    cases a with
    | non =>
      cases e
      have := emb_non ha; subst this
      rfl
    | bl a =>
      cases e
      have := emb_bl ha; subst this
      rfl
    | int a =>
      cases e
      have := emb_int ha; subst this
      rfl
    | str a =>
      cases e
      have := emb_str ha; subst this
      rfl
    | ty a =>
      cases e
      rcases ha with ha | ⟨_, _, _, h, _⟩
      · cases ha; rfl
      · cases h
    | tup a =>
      cases e
      obtain ⟨ws, rfl, _⟩ := emb_tup ha
      rfl
    | lst a =>
      cases e
      obtain ⟨n, ws, rfl, _⟩ := emb_lst ha
      rfl
    | frz ns =>
      cases e
      have := emb_frz ha; subst this
      rfl
  | _ => cases a <;> cases e
theorem ob_is : OPB (fIs false) isU := by
  intro a b v e Z st wa wb ha hb
  rw [fIs_run e ha hb]
  simp
theorem ob_isnot : OPB (fIs true) isNotU := by
  intro a b v e Z st wa wb ha hb
  obtain ⟨c, e1, e2⟩ := bnd_ok e
  cases e2
  rw [fIs_run e1 ha hb]
  simp

/-! ### order -/
mutual
def alikeU : U → U → Bool
  | .int _, v => match v with
    | .int _ => true
    | _ => false
  | .tup us, v => match v with
    | .tup vs => alikeUs us vs
    | _ => false
  | .lst us, v => match v with
    | .lst vs => alikeUs us vs
    | _ => false
  | .non, v => match v with
    | .non => true
    | _ => false
  | .bl _, v => match v with
    | .bl _ => true
    | _ => false
  | .str _, v => match v with
    | .str _ => true
    | _ => false
  | .ty _, _ => false
  | .frz _, _ => false
def alikeUs : List U → List U → Bool
  | [], _ => true
  | x :: xs, v => match v with
    | y :: ys => cond (alikeU x y) (alikeUs xs ys) false
    | [] => true
end
mutual
theorem alike_toD : ∀ u v : U, alikeU u v = true → PySem.W.alike (toD u) (toD v) = true
  | .int _, v, h => by
    cases v with
    | int _ => simp only [toD]; rw [PySem.W.alike]
    | _ => exact absurd h (by simp [alikeU])
  | .non, v, h => by
    cases v with
    | non => simp only [toD]; rw [PySem.W.alike]
    | _ => exact absurd h (by simp [alikeU])
  | .bl _, v, h => by
    cases v with
    | bl _ => simp only [toD]; rw [PySem.W.alike]
    | _ => exact absurd h (by simp [alikeU])
  | .str _, v, h => by
    cases v with
    | str _ => simp only [toD]; rw [PySem.W.alike]
    | _ => exact absurd h (by simp [alikeU])
  | .ty _, v, h => by simp [alikeU] at h
  | .frz _, v, h => by simp [alikeU] at h
  | .tup us, v, h => by
    cases v with
    | tup vs =>
      simp only [toD]
      rw [PySem.W.alike]
      exact alikes_toD us vs (by simpa only [alikeU] using h)
    | _ => simp [alikeU] at h
  | .lst us, v, h => by
    cases v with
    | lst vs =>
      simp only [toD]
      rw [PySem.W.alike]
      exact alikes_toD us vs (by simpa only [alikeU] using h)
    | _ => simp [alikeU] at h
theorem alikes_toD : ∀ us vs : List U, alikeUs us vs = true → PySem.W.alikeAll (toDs us) (toDs vs) = true
  | [], vs, _ => by
    simp only [toDs]
    rw [PySem.W.alikeAll]
  | x :: xs, [], _ => by
    simp only [toDs]
    rw [PySem.W.alikeAll]
  | x :: xs, y :: ys, h => by
    obtain ⟨h1, h2⟩ := cond_tt (by simpa only [alikeUs] using h)
    simp only [toDs]
    rw [PySem.W.alikeAll, alike_toD x y h1, alikes_toD xs ys h2]
    rfl
end
mutual
def ltU : U → U → Bool
  | .int i, v => match v with
    | .int j => ltF i j
    | _ => false
  | .tup us, v => match v with
    | .tup vs => ltUs us vs
    | _ => false
  | .lst us, v => match v with
    | .lst vs => ltUs us vs
    | _ => false
  | .bl a, v => match v with
    | .bl b => !a && b
    | _ => false
  | .str x, v => match v with
    | .str y => decide (x.cps.toList < y.cps.toList)
    | _ => false
  | .non, _ => false
  | .ty _, _ => false
  | .frz _, _ => false
def ltUs : List U → List U → Bool
  | [], v => match v with
    | [] => false
    | _ => true
  | x :: xs, v => match v with
    | y :: ys => cond (eqvU x y) (ltUs xs ys) (ltU x y)
    | [] => false
end
theorem lex_nil2 : PyProof.Rows.lexLt PyProof.Rows.itemOrd (PySem.W.keyToksAll []) (PySem.W.keyToksAll []) = false := by simp only [PySem.W.keyToksAll]; rfl
mutual
theorem lt_toD : ∀ (u v : U) (n m : Nat), okU u n = true → okU v m = true → alikeU u v = true → PySem.W.dataLt (toD u) (toD v) = ltU u v
  | .int i, v, _, _, _, _, h => by
    cases v with
    | int j => simp only [toD, ltU]; rw [PySem.W.dataLt_int, ltF_eq]
    | _ => simp [alikeU] at h
  | .non, v, _, _, _, _, h => by
    cases v with
    | non => simp only [toD, ltU]; unfold PySem.W.dataLt; simp only [PySem.W.keyToks]; rfl
    | _ => simp [alikeU] at h
  | .bl a, v, _, _, _, _, h => by
    cases v with
    | bl b => simp only [toD, ltU]; rw [PySem.W.dataLt_bool]; cases a <;> cases b <;> rfl
    | _ => simp [alikeU] at h
  | .str a, v, _, _, _, _, h => by
    cases v with
    | str b => simp only [toD, ltU]; rw [PySem.W.dataLt_str]
    | _ => simp [alikeU] at h
  | .ty _, v, _, _, h, _, _ => by simp [okU] at h
  | .frz _, v, _, _, h, _, _ => by simp [okU] at h
  | .tup us, v, n, m, h, k, e => by
    cases v with
    | tup vs =>
      obtain ⟨_, h2⟩ := cond_tt (by simpa only [okU] using h)
      obtain ⟨_, k2⟩ := cond_tt (by simpa only [okU] using k)
      simp only [toD, ltU]
      rw [PySem.W.dataLt_tuple]
      exact lts_toD us vs _ _ h2 k2 (by simpa only [alikeU] using e)
    | _ => simp [alikeU] at e
  | .lst us, v, n, m, h, k, e => by
    cases v with
    | lst vs =>
      obtain ⟨_, h2⟩ := cond_tt (by simpa only [okU] using h)
      obtain ⟨_, k2⟩ := cond_tt (by simpa only [okU] using k)
      simp only [toD, ltU]
      rw [PySem.W.dataLt_list]
      exact lts_toD us vs _ _ h2 k2 (by simpa only [alikeU] using e)
    | _ => simp [alikeU] at e
theorem lts_toD : ∀ (us vs : List U) (n m : Nat), okUs us n = true → okUs vs m = true → alikeUs us vs = true → PyProof.Rows.lexLt PyProof.Rows.itemOrd (PySem.W.keyToksAll (toDs us)) (PySem.W.keyToksAll (toDs vs)) = ltUs us vs
  | [], [], _, _, _, _, _ => by simp only [toDs, ltUs]; exact lex_nil2
  | [], y :: ys, _, _, _, _, _ => by
    simp only [toDs, ltUs]
    rw [PySem.W.toks_all_cons]
    simp only [PySem.W.keyToksAll]
    rfl
  | x :: xs, [], _, _, _, _, _ => by
    simp only [toDs, ltUs]
    rw [PySem.W.toks_all_cons]
    simp only [PySem.W.keyToksAll]
    rfl
  | x :: xs, y :: ys, n, m, h, k, e => by
    obtain ⟨h1, h2⟩ := cond_tt (by simpa only [okUs] using h)
    obtain ⟨k1, k2⟩ := cond_tt (by simpa only [okUs] using k)
    obtain ⟨e1, e2⟩ := cond_tt (by simpa only [alikeUs] using e)
    simp only [toDs, ltUs]
    cases q : eqvU x y with
    | true =>
      rw [PySem.W.dataLt_all_yes (alike_toD x y e1) ((eqv_toD x y _ _ h1 k1).trans q), lts_toD xs ys _ _ h2 k2 e2]
      rfl
    | false =>
      rw [PySem.W.dataLt_all_no (alike_toD x y e1) ((eqv_toD x y _ _ h1 k1).trans q), lt_toD x y _ _ h1 k1 e1]
      rfl
end
/-- a comparison: of whole numbers at once, of other data that are alike -/
def cmpU (g : Int → Int → Bool) (f : U → U → Bool) : U → U → Option Bool
  | .int i, v => match v with
    | .int j => some (g i j)
    | _ => none
  | .tup us, v => match v with
    | .tup vs => cond (okUs us 11) (cond (okUs vs 11) (cond (alikeUs us vs) (some (f (.tup us) (.tup vs))) none) none) none
    | _ => none
  | .str x, v => match v with
    | .str y => cond (PyData.strOk x) (cond (PyData.strOk y) (some (f (.str x) (.str y))) none) none
    | _ => none
  | _, _ => none
def ltP := cmpU ltF ltU
def gtP := cmpU gtF fun u v => ltU v u
def leP := cmpU leF fun u v => !ltU v u
def geP := cmpU geF fun u v => !ltU u v
end
theorem fCmpD_st (g : Int → Int → Bool) (f : PyData → PyData → Bool) (x y : Str) (st : Sto) (h1 : PyData.strOk x = true) (h2 : PyData.strOk y = true) : fCmpD g f (.str x) (.str y) st = .ok (.bl (f (.str x) (.str y))) st := by
  have e1 : dat st deep (.str x) = some (.str x) := by
    show (if PyData.strOk x = true then some (PyData.str x) else none) = _
    rw [if_pos h1]
  have e2 : dat st deep (.str y) = some (.str y) := by
    show (if PyData.strOk y = true then some (PyData.str y) else none) = _
    rw [if_pos h2]
  unfold fCmpD
  simp only [e1, e2]
  rw [PySem.W.alike]
  rfl
theorem fCmpD_tp (g : Int → Int → Bool) (f : PyData → PyData → Bool) {Z : Nat → Prop} {st : Sto} {us vs : List U} {wa wb : List W} (ha : Ems Z st us wa) (hb : Ems Z st vs wb) (h1 : okUs us 11 = true) (h2 : okUs vs 11 = true) (h3 : alikeUs us vs = true) : fCmpD g f (.tup wa) (.tup wb) st = .ok (.bl (f (toD (.tup us)) (toD (.tup vs)))) st := by
  have e1 : dat st deep (.tup wa) = some (toD (.tup us)) := dat_em (.tup ha) (by simp only [okU]; exact h1)
  have e2 : dat st deep (.tup wb) = some (toD (.tup vs)) := dat_em (.tup hb) (by simp only [okU]; exact h2)
  unfold fCmpD
  simp only [e1, e2]
  have e3 : PySem.W.alike (toD (.tup us)) (toD (.tup vs)) = true := alike_toD _ _ (by simp only [alikeU]; exact h3)
  simp only [toD] at e3 ⊢
  rw [e3]
  rfl
section
variable {Z : Nat → Prop} {st : Sto}
mutual
theorem alikeU_sym : ∀ u v : U, alikeU u v = true → alikeU v u = true
  | .int _, v, h => by
    cases v with
    | int _ => simp only [alikeU]
    | _ => exact absurd h (by simp [alikeU])
  | .non, v, h => by
    cases v with
    | non => simp only [alikeU]
    | _ => exact absurd h (by simp [alikeU])
  | .bl _, v, h => by
    cases v with
    | bl _ => simp only [alikeU]
    | _ => exact absurd h (by simp [alikeU])
  | .str _, v, h => by
    cases v with
    | str _ => simp only [alikeU]
    | _ => exact absurd h (by simp [alikeU])
  | .ty _, v, h => by simp [alikeU] at h
  | .frz _, v, h => by simp [alikeU] at h
  | .tup us, v, h => by
    cases v with
    | tup vs => simp only [alikeU] at h ⊢; exact alikeUs_sym us vs h
    | _ => simp [alikeU] at h
  | .lst us, v, h => by
    cases v with
    | lst vs => simp only [alikeU] at h ⊢; exact alikeUs_sym us vs h
    | _ => simp [alikeU] at h
theorem alikeUs_sym : ∀ us vs : List U, alikeUs us vs = true → alikeUs vs us = true
  | [], [], _ => rfl
  | [], _ :: _, _ => by simp [alikeUs]
  | _ :: _, [], _ => by simp [alikeUs]
  | x :: xs, y :: ys, h => by
    obtain ⟨h1, h2⟩ := cond_tt (by simpa only [alikeUs] using h)
    simp only [alikeUs]
    rw [alikeU_sym x y h1, alikeUs_sym xs ys h2]
    rfl
end
theorem ob_cmp {g g' : Int → Int → Bool} {f : U → U → Bool} {f' : PyData → PyData → Bool} (hg : ∀ i j, g' i j = g i j) (hf : ∀ u v n m, okU u n = true → okU v m = true → alikeU u v = true → f' (toD u) (toD v) = f u v) : OPB (fCmpD g' f') (cmpU g f) := by
  intro a b v e Z st wa wb ha hb
  cases a with
  | int i =>
    cases b with
    | int j =>
      cases e
      have := emb_int ha; subst this
      have := emb_int hb; subst this
      show R.ok (W.bl (g' i j)) st = _
      rw [hg]
    | _ => cases e
  | str x =>
    cases b with
    | str y =>
      obtain ⟨h1, e⟩ := cond_so e
      obtain ⟨h2, e⟩ := cond_so e
      cases e
      have := emb_str ha; subst this
      have := emb_str hb; subst this
      rw [fCmpD_st g' f' x y st h1 h2, ← hf (.str x) (.str y) 1 1 (by simp only [okU]; exact h1) (by simp only [okU]; exact h2) (by simp only [alikeU])]
      rfl
    | _ => cases e
  | tup us =>
    cases b with
    | tup vs =>
      obtain ⟨h1, e⟩ := cond_so e
      obtain ⟨h2, e⟩ := cond_so e
      obtain ⟨h3, e⟩ := cond_so e
      cases e
      obtain ⟨ws, rfl, ra⟩ := emb_tup ha
      obtain ⟨xs, rfl, rb⟩ := emb_tup hb
      rw [fCmpD_tp g' f' ra rb h1 h2 h3, hf (.tup us) (.tup vs) 12 12 (by simp only [okU]; exact h1) (by simp only [okU]; exact h2) (by simp only [alikeU]; exact h3)]
    | _ => cases e
  | _ => cases b <;> cases e
theorem ob_lt : OPB (fCmpD ltI ltD) ltP := ob_cmp (fun i j => (ltF_eq i j).symm) fun u v n m h k e => lt_toD u v n m h k e
theorem ob_gt : OPB (fCmpD gtI gtD) gtP := ob_cmp (fun i j => (gtF_eq i j).symm) fun u v n m h k e => lt_toD v u m n k h (alikeU_sym u v e)
theorem ob_le : OPB (fCmpD leI leD) leP := ob_cmp (fun i j => (leF_eq i j).symm) fun u v n m h k e => by
  unfold leD
  rw [lt_toD v u m n k h (alikeU_sym u v e)]
theorem ob_ge : OPB (fCmpD geI geD) geP := ob_cmp (fun i j => (geF_eq i j).symm) fun u v n m h k e => by
  unfold geD
  rw [lt_toD u v n m h k e]
end
end
end Rx

/-! UxC: what operators and built-in functions make of values without a store. -/
namespace Rx
open PySem PySem.Spec PyProof.Rows L2
noncomputable section
/-- an answer: a value -/
def AnsV (Z : Nat → Prop) (st : Sto) (r : R W) (u : U) : Prop := ∃ w g, r = .ok w (st ++ g) ∧ Em Z (st ++ g) u w
/-- .. a new list -/
def AnsL (Z : Nat → Prop) (st : Sto) (r : R W) (us : List U) : Prop := ∃ n ws g, r = .ok (.ls n) (st ++ g) ∧ st.length ≤ n ∧ (st ++ g)[n]? = some (.lst ws) ∧ Ems (fun j => Z j ∨ j = n) (st ++ g) us ws
def Bd (Z : Nat → Prop) (st : Sto) : Prop := ∀ n, Z n → n < st.length
def OP2 (f : W → W → Sto → R W) (p : U → U → Option U) : Prop := ∀ a b u, p a b = some u → ∀ (Z : Nat → Prop) (st : Sto) wa wb, Bd Z st → EmB Z st a wa → EmB Z st b wb → AnsV Z st (f wa wb st) u
def OP2L (f : W → W → Sto → R W) (p : U → U → Option (List U)) : Prop := ∀ a b us, p a b = some us → ∀ (Z : Nat → Prop) (st : Sto) wa wb, Bd Z st → EmB Z st a wa → EmB Z st b wb → AnsL Z st (f wa wb st) us
def OP1 (f : W → Sto → R W) (p : U → Option U) : Prop := ∀ a u, p a = some u → ∀ (Z : Nat → Prop) (st : Sto) wa, Bd Z st → EmB Z st a wa → AnsV Z st (f wa st) u
def OP1L (f : W → Sto → R W) (p : U → Option (List U)) : Prop := ∀ a us, p a = some us → ∀ (Z : Nat → Prop) (st : Sto) wa, Bd Z st → EmB Z st a wa → AnsL Z st (f wa st) us
section
variable {Z : Nat → Prop} {st : Sto}
theorem AnsV.here {r : R W} {u : U} {w : W} (e : r = .ok w st) (h : Em Z st u w) : AnsV Z st r u := ⟨w, [], by rw [List.append_nil]; exact e, by rw [List.append_nil]; exact h⟩
theorem AnsL.new {r : R W} {us : List U} {ws : List W} (hZ : Bd Z st) (e : r = .ok (.ls st.length) (st ++ [.lst ws])) (h : Ems Z st us ws) : AnsL Z st r us := by
  refine ⟨st.length, ws, [.lst ws], e, Nat.le_refl _, by simp, ?_⟩
  refine h.step (fun n hn z => ?_) fun n hn _ => ext_get hn
  rcases z with z | z
  · exact z
  · omega
theorem AnsL.v {r : R W} {us : List U} (hZ : Bd Z st) (h : AnsL Z st r us) : AnsV Z st r (.lst us) := by
  obtain ⟨n, ws, g, e, hn, h1, h2⟩ := h
  exact ⟨.ls n, g, e, .lst (fun z => by have := hZ n z; omega) h1 (h2.wk fun m z => .inl z)⟩
theorem OP2L.v {f : W → W → Sto → R W} {p : U → U → Option (List U)} (h : OP2L f p) : OP2 f fun a b => bnd (p a b) fun us => some (.lst us) := by
  intro a b u e Z st wa wb hZ ha hb
  obtain ⟨us, e1, e2⟩ := bnd_ok e
  cases e2
  exact (h a b us e1 Z st wa wb hZ ha hb).v hZ
theorem OP1L.v {f : W → Sto → R W} {p : U → Option (List U)} (h : OP1L f p) : OP1 f fun a => bnd (p a) fun us => some (.lst us) := by
  intro a u e Z st wa hZ ha
  obtain ⟨us, e1, e2⟩ := bnd_ok e
  cases e2
  exact (h a us e1 Z st wa hZ ha).v hZ
theorem OPB.v {f : W → W → Sto → R W} {p : U → U → Option Bool} (h : OPB f p) : OP2 f fun a b => bnd (p a b) fun c => some (.bl c) := by
  intro a b u e Z st wa wb hZ ha hb
  obtain ⟨c, e1, e2⟩ := bnd_ok e
  cases e2
  exact .here (h a b c e1 Z st wa wb ha hb) (.bl c)

/-! ### whole numbers -/
def len5 (n : Nat) : Bool := Nat.ble n 100000
theorem len5_le {n : Nat} (h : len5 n = true) : n ≤ 100000 := Nat.le_of_ble_eq_true h
def addU : U → U → Option U
  | .int i, v => match v with
    | .int j => some (.int (Int.add i j))
    | _ => none
  | .tup us, v => match v with
    | .tup vs => cond (len5 (us.length + vs.length)) (some (.tup (us ++ vs))) none
    | _ => none
  | .str x, v => match v with
    | .str y => cond (len5 (x.length + y.length)) (some (.str (x ++ y))) none
    | _ => none
  | .lst us, v => match v with
    | .lst vs => cond (len5 (us.length + vs.length)) (some (.lst (us ++ vs))) none
    | _ => none
  | _, _ => none
def addL : U → U → Option (List U)
  | .lst us, .lst vs => cond (len5 (us.length + vs.length)) (some (us ++ vs)) none
  | _, _ => none
theorem fAdd_ls {us vs : List U} (h : len5 (us.length + vs.length) = true) {wa wb : W} (hZ : Bd Z st) (ha : EmB Z st (.lst us) wa) (hb : EmB Z st (.lst vs) wb) : AnsL Z st (fAdd wa wb st) (us ++ vs) := by
  obtain ⟨n, ws, rfl, e1, r1⟩ := emb_lst ha
  obtain ⟨m, xs, rfl, e2, r2⟩ := emb_lst hb
  refine .new hZ ?_ (r1.append r2)
  simp only [fAdd, e1, e2]
  rw [if_pos]
  rw [← r1.length, ← r2.length]
  exact len5_le h
theorem op_addU : OP2 fAdd addU := by
  intro a b u e Z st wa wb hZ ha hb
  cases a with
  | int i =>
    cases b with
    | int j =>
      cases e
      have := emb_int ha; subst this
      have := emb_int hb; subst this
      exact .here rfl (.int _)
    | _ => cases e
  | tup us =>
    cases b with
    | tup vs =>
      obtain ⟨h, e⟩ := cond_so e
      cases e
      obtain ⟨ws, rfl, r1⟩ := emb_tup ha
      obtain ⟨xs, rfl, r2⟩ := emb_tup hb
      refine .here ?_ (.tup (r1.append r2))
      simp only [fAdd]
      rw [if_pos]
      rw [← r1.length, ← r2.length]
      exact len5_le h
    | _ => cases e
  | str x =>
    cases b with
    | str y =>
      obtain ⟨h, e⟩ := cond_so e
      cases e
      have := emb_str ha; subst this
      have := emb_str hb; subst this
      refine .here ?_ (.str _)
      simp only [fAdd]
      rw [if_pos]
      exact len5_le h
    | _ => cases e
  | lst us =>
    cases b with
    | lst vs =>
      obtain ⟨h, e⟩ := cond_so e
      cases e
      exact (fAdd_ls h hZ ha hb).v hZ
    | _ => cases e
  | _ => cases e
theorem op_addL : OP2L fAdd addL := by
  intro a b u e Z st wa wb hZ ha hb
  cases a with
  | lst us =>
    cases b with
    | lst vs =>
      obtain ⟨h, e⟩ := cond_so e
      cases e
      exact fAdd_ls h hZ ha hb
    | _ => cases e
  | _ => cases b <;> cases e
def intop (C : Int → Int → Bool) (g : Int → Int → Int) : U → U → Option U
  | .int i, v => match v with
    | .int j => cond (C i j) (some (.int (g i j))) none
    | _ => none
  | _, _ => none
theorem op_int {C : Int → Int → Bool} {g : Int → Int → Int} : OP2 (fInt (intOk C g)) (intop C g) := by
  intro a b u e Z st wa wb hZ ha hb
  cases a with
  | int i =>
    cases b with
    | int j =>
      obtain ⟨h, e⟩ := cond_so e
      cases e
      have := emb_int ha; subst this
      have := emb_int hb; subst this
      refine .here ?_ (.int _)
      simp only [fInt, intOk]
      rw [if_pos h]
    | _ => cases e
  | _ => cases e
def subU : U → U → Option U
  | .int i, v => match v with
    | .int j => some (.int (Int.sub i j))
    | _ => none
  | _, _ => none
theorem op_subU : OP2 fSub subU := by
  intro a b u e Z st wa wb hZ ha hb
  cases a with
  | int i =>
    cases b with
    | int j =>
      cases e
      have := emb_int ha; subst this
      have := emb_int hb; subst this
      exact .here rfl (.int _)
    | _ => cases e
  | _ => cases e
/-- a divisor from 1 to 2^63 -/
def posD : Int → Bool
  | .ofNat n => cond (Nat.beq n 0) false (Nat.blt n 9223372036854775808)
  | .negSucc _ => false
theorem posD_ok {j : Int} (h : posD j = true) : 0 < j ∧ j.natAbs < 9223372036854775808 := by
  cases j with
  | ofNat n =>
    replace h : cond (Nat.beq n 0) false (Nat.blt n 9223372036854775808) = true := h
    cases e : Nat.beq n 0 with
    | true => rw [e] at h; cases h
    | false =>
      rw [e] at h
      have h2 : n < 9223372036854775808 := by simpa [Nat.blt_eq] using h
      have h3 : n ≠ 0 := fun q => by subst q; cases e
      simp only [Int.ofNat_eq_natCast]
      omega
  | negSucc n => cases h
def ediv' (i j : Int) : Int := Int.fdiv i j
def emod' (i j : Int) : Int := Int.fmod i j
def divC' (i j : Int) : Bool := cond (posD j) true (divC i j)
def modC' (i j : Int) : Bool := cond (posD j) true (modC i j)
theorem divC'_ok {i j : Int} (h : divC' i j = true) : divC i j = true := by
  unfold divC' at h
  cases e : posD j with
  | true =>
    have := posD_ok e
    unfold divC small63
    rw [bltD, decide_eq_true this.2]
    simp
    omega
  | false => rw [e] at h; exact h
theorem modC'_ok {i j : Int} (h : modC' i j = true) : modC i j = true := by
  unfold modC' at h
  cases e : posD j with
  | true =>
    have := posD_ok e
    unfold modC
    simp
    omega
  | false => rw [e] at h; exact h
def divU : U → U → Option U := intop divC' Int.fdiv
def modU : U → U → Option U := intop modC' Int.fmod
theorem op_intC {C C' : Int → Int → Bool} {g : Int → Int → Int} (hC : ∀ i j, C' i j = true → C i j = true) : OP2 (fInt (intOk C g)) (intop C' g) := by
  intro a b u e Z st wa wb hZ ha hb
  cases a with
  | int i =>
    cases b with
    | int j =>
      obtain ⟨h, e⟩ := cond_so e
      cases e
      have := emb_int ha; subst this
      have := emb_int hb; subst this
      refine .here ?_ (.int _)
      simp only [fInt, intOk]
      rw [if_pos (hC i j h)]
    | _ => cases e
  | _ => cases e
theorem op_divU : OP2 fDiv divU := op_intC fun _ _ => divC'_ok
theorem op_modU : OP2 fMod modU := op_intC fun _ _ => modC'_ok
def powU : U → U → Option U := intop powC fun i j => i ^ j.toNat
theorem op_powU : OP2 fPow powU := op_int
def shlU : U → U → Option U := intop powC fun i j => i * 2 ^ j.toNat
theorem op_shlU : OP2 fShl shlU := op_int
def rep1 (k : Int) (n : Nat) : Bool := match k with
  | .ofNat j => cond (Nat.ble 1 j) (cond (Nat.ble j 1000) (cond (Nat.ble 1 n) (Nat.ble n 1000) false) false) false
  | .negSucc _ => false
def rep0 (k : Int) (n : Nat) : Bool := match k with
  | .ofNat j => cond (Nat.ble j 1000) (Nat.ble n 1000) false
  | .negSucc _ => false
def repU (k : Nat) (us : List U) : List U := (List.replicate k us).flatten
theorem Ems.rep {us : List U} {ws : List W} (h : Ems Z st us ws) : ∀ k, Ems Z st (repU k us) (repW k ws)
  | 0 => .nil
  | k + 1 => by
    unfold repU repW
    rw [List.replicate_succ, List.flatten_cons, List.replicate_succ, List.flatten_cons]
    exact h.append (Ems.rep h k)
def mulU : U → U → Option U
  | .int i, v => match v with
    | .int j => cond (mulC i j) (some (.int (Int.mul i j))) none
    | _ => none
  | .tup us, v => match v with
    | .int j => cond (rep1 j us.length) (some (.tup (repU j.toNat us))) none
    | _ => none
  | .lst us, v => match v with
    | .int j => cond (rep0 j us.length) (some (.lst (repU j.toNat us))) none
    | _ => none
  | _, _ => none
def mulL : U → U → Option (List U)
  | .lst us, .int j => cond (rep0 j us.length) (some (repU j.toNat us)) none
  | _, _ => none
theorem rep1_ok {j : Int} {n : Nat} (h : rep1 j n = true) : 1 ≤ j ∧ j ≤ 1000 ∧ 1 ≤ n ∧ n ≤ 1000 := by
  cases j with
  | ofNat k =>
    obtain ⟨h1, h⟩ := cond_tt h
    obtain ⟨h2, h⟩ := cond_tt h
    obtain ⟨h3, h⟩ := cond_tt h
    have := Nat.le_of_ble_eq_true h1
    have := Nat.le_of_ble_eq_true h2
    have := Nat.le_of_ble_eq_true h3
    have := Nat.le_of_ble_eq_true h
    simp only [Int.ofNat_eq_natCast]
    omega
  | negSucc _ => cases h
theorem rep0_ok {j : Int} {n : Nat} (h : rep0 j n = true) : 0 ≤ j ∧ j ≤ 1000 ∧ n ≤ 1000 := by
  cases j with
  | ofNat k =>
    obtain ⟨h1, h⟩ := cond_tt h
    have := Nat.le_of_ble_eq_true h1
    have := Nat.le_of_ble_eq_true h
    simp only [Int.ofNat_eq_natCast]
    omega
  | negSucc _ => cases h
theorem fMul_ls {us : List U} {j : Int} (h : rep0 j us.length = true) {wa wb : W} (hZ : Bd Z st) (ha : EmB Z st (.lst us) wa) (hb : EmB Z st (.int j) wb) : AnsL Z st (fMul wa wb st) (repU j.toNat us) := by
  obtain ⟨n, ws, rfl, e1, r1⟩ := emb_lst ha
  have := emb_int hb; subst this
  have := rep0_ok h
  refine .new hZ ?_ (r1.rep j.toNat)
  simp only [fMul, e1]
  rw [if_pos]
  rw [← r1.length]
  omega
theorem op_mulU : OP2 fMul mulU := by
  intro a b u e Z st wa wb hZ ha hb
  cases a with
  | int i =>
    cases b with
    | int j =>
      obtain ⟨h, e⟩ := cond_so e
      cases e
      have := emb_int ha; subst this
      have := emb_int hb; subst this
      refine .here ?_ (.int _)
      simp only [fMul]
      rw [if_pos h]
      rfl
    | _ => cases e
  | tup us =>
    cases b with
    | int j =>
      obtain ⟨h, e⟩ := cond_so e
      cases e
      obtain ⟨ws, rfl, r1⟩ := emb_tup ha
      have := emb_int hb; subst this
      have := rep1_ok h
      refine .here ?_ (.tup (r1.rep j.toNat))
      simp only [fMul]
      rw [if_pos]
      have hl := r1.length
      refine ⟨by omega, by omega, by rw [← hl]; omega, ?_⟩
      rintro rfl
      rw [List.length_nil] at hl
      omega
    | _ => cases e
  | lst us =>
    cases b with
    | int j =>
      obtain ⟨h, e⟩ := cond_so e
      cases e
      exact (fMul_ls h hZ ha hb).v hZ
    | _ => cases e
  | _ => cases e
theorem op_mulL : OP2L fMul mulL := by
  intro a b u e Z st wa wb hZ ha hb
  cases a with
  | lst us =>
    cases b with
    | int j =>
      obtain ⟨h, e⟩ := cond_so e
      cases e
      exact fMul_ls h hZ ha hb
    | _ => cases e
  | _ => cases b <;> cases e
def negU : U → Option U
  | .int i => some (.int (Int.neg i))
  | _ => none
theorem op_negU : OP1 fNeg negU := by
  intro a u e Z st wa hZ ha
  cases a with
  | int i =>
    cases e
    have := emb_int ha; subst this
    exact .here rfl (.int _)
  | _ => cases e

/-! ### places, slices -/
def nth {α : Type} : List α → Nat → Option α
  | [], _ => none
  | x :: xs, n => match n with
    | 0 => some x
    | k + 1 => nth xs k
theorem nth_eq {α : Type} : ∀ (xs : List α) (n : Nat), nth xs n = xs[n]?
  | [], _ => by simp [nth]
  | x :: xs, 0 => rfl
  | x :: xs, n + 1 => by
    show nth xs n = _
    rw [nth_eq xs n]
    simp
def atU {α : Type} (xs : List α) : Int → Option α
  | .ofNat n => nth xs n
  | .negSucc k => cond (Nat.blt k xs.length) (nth xs (xs.length - 1 - k)) none
theorem atU_eq {α : Type} (xs : List α) (i : Int) : atU xs i = L2.atI xs i := by
  unfold L2.atI ixN
  cases i with
  | ofNat n =>
    show nth xs n = _
    rw [nth_eq, if_pos (by simp only [Int.ofNat_eq_natCast]; omega)]
    by_cases h : n < xs.length
    · rw [if_pos (by simp only [Int.ofNat_eq_natCast]; omega)]
      rfl
    · rw [if_neg (by simp only [Int.ofNat_eq_natCast]; omega), List.getElem?_eq_none (by omega)]
      rfl
  | negSucc k =>
    show cond (Nat.blt k xs.length) (nth xs (xs.length - 1 - k)) none = _
    rw [if_neg (by omega), nth_eq, bltD]
    by_cases h : k < xs.length
    · rw [if_pos (by omega), decide_eq_true h]
      show xs[xs.length - 1 - k]? = xs[(Int.negSucc k + (xs.length : Int)).toNat]?
      have : (Int.negSucc k + (xs.length : Int)).toNat = xs.length - 1 - k := by omega
      rw [this]
    · rw [if_neg (by omega), decide_eq_false h]
      rfl
theorem Ems.atI {us : List U} {ws : List W} {i : Int} {u : U} (r : Ems Z st us ws) (h : atU us i = some u) : ∃ w, L2.atI ws i = some w ∧ Em Z st u w := by
  rw [atU_eq] at h
  unfold L2.atI at h ⊢
  rw [r.length] at h
  cases e : ixN ws.length i with
  | none => rw [e] at h; cases h
  | some j =>
    rw [e] at h
    exact r.get h
def ixU : U → U → Option U
  | .tup us, v => match v with
    | .int i => atU us i
    | _ => none
  | .lst us, v => match v with
    | .int i => atU us i
    | _ => none
  | .frz ns, v => match v with
    | .int i => bnd (atU ns i) fun k => some (.int k)
    | _ => none
  | _, _ => none
theorem op_ixU : OP2 fIx ixU := by
  intro a b u e Z st wa wb hZ ha hb
  cases a with
  | tup us =>
    cases b with
    | int i =>
      obtain ⟨ws, rfl, r1⟩ := emb_tup ha
      have := emb_int hb; subst this
      obtain ⟨w, h1, h2⟩ := r1.atI e
      exact .here (by simp only [fIx, h1]) h2
    | _ => cases e
  | lst us =>
    cases b with
    | int i =>
      obtain ⟨n, ws, rfl, e1, r1⟩ := emb_lst ha
      have := emb_int hb; subst this
      obtain ⟨w, h1, h2⟩ := r1.atI e
      exact .here (by simp only [fIx, e1, h1]) h2
    | _ => cases e
  | frz ns =>
    cases b with
    | int i =>
      have := emb_frz ha; subst this
      have := emb_int hb; subst this
      obtain ⟨k, e1, e2⟩ := bnd_ok e
      cases e2
      rw [atU_eq] at e1
      exact .here (by simp only [fIx, e1]) (.int k)
    | _ => cases e
  | _ => cases e
theorem Ems.cutW {us : List U} {ws : List W} {lo hi : Option Int} (r : Ems Z st us ws) : Ems Z st (Rx.cutW us lo hi) (Rx.cutW ws lo hi) := by
  unfold Rx.cutW
  rw [r.length]
  exact (r.drop _).take _
def lowP (n : Nat) : Option Int → Nat
  | none => 0
  | some (.ofNat k) => Nat.min k n
  | some (.negSucc k) => n - (k + 1)
def highP (n : Nat) : Option Int → Nat
  | none => n
  | some (.ofNat k) => Nat.min k n
  | some (.negSucc k) => n - (k + 1)
theorem lowP_eq (n : Nat) (o : Option Int) : lowP n o = HT.sIx n 0 o := by
  unfold lowP HT.sIx
  cases o with
  | none => rfl
  | some i =>
    cases i with
    | ofNat k => simp only []; rw [if_neg (by simp only [Int.ofNat_eq_natCast]; omega)]; rfl
    | negSucc k => simp only []; rw [if_pos (by omega)]; omega
theorem highP_eq (n : Nat) (o : Option Int) : highP n o = HT.sIx n n o := by
  unfold highP HT.sIx
  cases o with
  | none => rfl
  | some i =>
    cases i with
    | ofNat k => simp only []; rw [if_neg (by simp only [Int.ofNat_eq_natCast]; omega)]; rfl
    | negSucc k => simp only []; rw [if_pos (by omega)]; omega
def cutU (us : List U) (lo hi : Option Int) : List U := (us.drop (lowP us.length lo)).take (highP us.length hi - lowP us.length lo)
theorem cutU_eq (us : List U) (lo hi : Option Int) : cutU us lo hi = Rx.cutW us lo hi := by
  unfold cutU Rx.cutW
  rw [lowP_eq, highP_eq]
def slU (lo hi : Option Int) : U → Option U
  | .tup us => some (.tup (cutU us lo hi))
  | .lst us => some (.lst (cutU us lo hi))
  | .frz ns => some (.lst (cutU (ns.map .int) lo hi))
  | _ => none
def slL (lo hi : Option Int) : U → Option (List U)
  | .lst us => some (cutU us lo hi)
  | .frz ns => some (cutU (ns.map .int) lo hi)
  | _ => none
theorem op_slL (lo hi : Option Int) : OP1L (fun w => fSl w lo hi) (slL lo hi) := by
  intro a u e Z st wa hZ ha
  cases a with
  | lst us =>
    cases e
    obtain ⟨n, ws, rfl, e1, r1⟩ := emb_lst ha
    rw [cutU_eq]
    exact .new hZ (by simp only [fSl, e1]) r1.cutW
  | frz ns =>
    cases e
    have := emb_frz ha; subst this
    rw [cutU_eq]
    exact .new hZ rfl (Ems.ints ns).cutW
  | _ => cases e
theorem op_slU (lo hi : Option Int) : OP1 (fun w => fSl w lo hi) (slU lo hi) := by
  intro a u e Z st wa hZ ha
  cases a with
  | tup us =>
    cases e
    obtain ⟨ws, rfl, r1⟩ := emb_tup ha
    rw [cutU_eq]
    exact .here rfl (.tup r1.cutW)
  | lst us => cases e; exact (op_slL lo hi (.lst us) _ rfl Z st wa hZ ha).v hZ
  | frz us => cases e; exact (op_slL lo hi (.frz us) _ rfl Z st wa hZ ha).v hZ
  | _ => cases e
def revU : U → Option U
  | .tup us => some (.tup us.reverse)
  | .lst us => some (.lst us.reverse)
  | .frz ns => some (.lst (ns.map U.int).reverse)
  | _ => none
def revL : U → Option (List U)
  | .lst us => some us.reverse
  | .frz ns => some (ns.map U.int).reverse
  | _ => none
theorem op_revL : OP1L fRev revL := by
  intro a u e Z st wa hZ ha
  cases a with
  | lst us =>
    cases e
    obtain ⟨n, ws, rfl, e1, r1⟩ := emb_lst ha
    exact .new hZ (by simp only [fRev, e1]) r1.reverse
  | frz ns =>
    cases e
    have := emb_frz ha; subst this
    exact .new hZ rfl (Ems.ints ns).reverse
  | _ => cases e
theorem op_revU : OP1 fRev revU := by
  intro a u e Z st wa hZ ha
  cases a with
  | tup us =>
    cases e
    obtain ⟨ws, rfl, r1⟩ := emb_tup ha
    exact .here rfl (.tup r1.reverse)
  | lst us => cases e; exact (op_revL (.lst us) _ rfl Z st wa hZ ha).v hZ
  | frz us => cases e; exact (op_revL (.frz us) _ rfl Z st wa hZ ha).v hZ
  | _ => cases e

/-! ### built-in functions -/
def lenU : U → Option U
  | .tup us => some (.int (Int.ofNat us.length))
  | .lst us => some (.int (Int.ofNat us.length))
  | .frz ns => some (.int (Int.ofNat ns.length))
  | .str x => cond (len5 x.length) (some (.int (Int.ofNat x.length))) none
  | _ => none
theorem op_lenU : OP1 gLen lenU := by
  intro a u e Z st wa hZ ha
  cases a with
  | tup us =>
    cases e
    obtain ⟨ws, rfl, r1⟩ := emb_tup ha
    rw [r1.length]
    exact .here rfl (.int _)
  | lst us =>
    cases e
    obtain ⟨n, ws, rfl, e1, r1⟩ := emb_lst ha
    rw [r1.length]
    exact .here (by simp [gLen, seqW, e1]) (.int _)
  | frz ns =>
    cases e
    have := emb_frz ha; subst this
    exact .here (by simp [gLen, seqW]) (.int _)
  | str x =>
    obtain ⟨h, e⟩ := cond_so e
    cases e
    have := emb_str ha; subst this
    refine .here ?_ (.int _)
    simp only [gLen]
    rw [if_pos (len5_le h)]
    rfl
  | _ => cases e
def absU : U → Option U
  | .int i => some (.int (Int.ofNat i.natAbs))
  | _ => none
theorem op_absU : OP1 gAbs absU := by
  intro a u e Z st wa hZ ha
  cases a with
  | int i =>
    cases e
    have := emb_int ha; subst this
    refine .here (w := .int (Int.ofNat i.natAbs)) ?_ (.int _)
    simp only [gAbs]
    have : (if i < 0 then -i else i) = Int.ofNat i.natAbs := by
      simp only [Int.ofNat_eq_natCast]
      split <;> omega
    rw [this]
  | _ => cases e
def intU : U → Option U
  | .int i => some (.int i)
  | .bl b => some (.int (cond b 1 0))
  | _ => none
theorem op_intU : OP1 gInt intU := by
  intro a u e Z st wa hZ ha
  cases a with
  | int i =>
    cases e
    have := emb_int ha; subst this
    exact .here rfl (.int _)
  | bl b =>
    cases e
    have := emb_bl ha; subst this
    exact .here (by cases b <;> rfl) (.int _)
  | _ => cases e
def max2U : U → U → Option U
  | .int i, .int j => some (.int (cond (ltF i j) j i))
  | _, _ => none
def min2U : U → U → Option U
  | .int i, .int j => some (.int (cond (ltF j i) j i))
  | _, _ => none
theorem op_max2U : OP2 gMax2 max2U := by
  intro a b u e Z st wa wb hZ ha hb
  cases a with
  | int i =>
    cases b with
    | int j =>
      cases e
      have := emb_int ha; subst this
      have := emb_int hb; subst this
      refine .here ?_ (.int _)
      simp only [gMax2]
      rw [ltF_eq]
      by_cases h : i < j
      · rw [if_pos h, decide_eq_true h]; rfl
      · rw [if_neg h, decide_eq_false h]; rfl
    | _ => cases e
  | _ => cases b <;> cases e
theorem op_min2U : OP2 gMin2 min2U := by
  intro a b u e Z st wa wb hZ ha hb
  cases a with
  | int i =>
    cases b with
    | int j =>
      cases e
      have := emb_int ha; subst this
      have := emb_int hb; subst this
      refine .here ?_ (.int _)
      simp only [gMin2]
      rw [ltF_eq]
      by_cases h : j < i
      · rw [if_pos h, decide_eq_true h]; rfl
      · rw [if_neg h, decide_eq_false h]; rfl
    | _ => cases e
  | _ => cases b <;> cases e
/-- whole numbers -/
def intsU : List U → Option (List Int)
  | [] => some []
  | u :: us => match u with
    | .int i => bnd (intsU us) fun is => some (i :: is)
    | _ => none
theorem intsU_ok : ∀ {us : List U} {ns : List Int}, intsU us = some ns → us = ns.map U.int
  | [], ns, h => by cases h; rfl
  | u :: us, ns, h => by
    cases u with
    | int i =>
      obtain ⟨is, h1, h2⟩ := bnd_ok h
      cases h2
      rw [intsU_ok h1]
      rfl
    | _ => cases h
theorem Ems.ofInts : ∀ {ns : List Int} {ws : List W}, Ems Z st (ns.map U.int) ws → ws = ns.map W.int
  | [], _, .nil => rfl
  | n :: ns, _, .cons h r => by
    cases h
    rw [Ems.ofInts r]
    rfl
theorem intsW_map : ∀ ns : List Int, intsW (ns.map W.int) = some ns
  | [] => rfl
  | n :: ns => by
    show (match intsW (ns.map W.int) with
      | some is => some (n :: is)
      | none => none) = _
    rw [intsW_map ns]
def sumI : List Int → Int
  | [] => 0
  | x :: xs => Int.add x (sumI xs)
theorem sumI_eq : ∀ xs : List Int, sumI xs = xs.sum
  | [] => rfl
  | x :: xs => by
    show x + sumI xs = _
    rw [sumI_eq xs, List.sum_cons]
def sumU (u : U) : Option U := bnd (seqU u) fun us => bnd (intsU us) fun ns => some (.int (sumI ns))
theorem op_sumU : OP1 gSum sumU := by
  intro a u e Z st wa hZ ha
  obtain ⟨us, e1, e⟩ := bnd_ok e
  obtain ⟨ns, e2, e⟩ := bnd_ok e
  cases e
  obtain ⟨ws, h1, r⟩ := seq_em ha e1
  have := intsU_ok e2; subst this
  have := r.ofInts; subst this
  refine .here ?_ (.int _)
  simp only [gSum, h1, intsW_map]
  rw [sumI_eq]
def blsU : List U → Option (List Bool)
  | [] => some []
  | u :: us => match u with
    | .bl i => bnd (blsU us) fun is => some (i :: is)
    | _ => none
theorem blsU_ok : ∀ {us : List U} {ns : List Bool}, blsU us = some ns → us = ns.map U.bl
  | [], ns, h => by cases h; rfl
  | u :: us, ns, h => by
    cases u with
    | bl i =>
      obtain ⟨is, h1, h2⟩ := bnd_ok h
      cases h2
      rw [blsU_ok h1]
      rfl
    | _ => cases h
theorem Ems.ofBls : ∀ {ns : List Bool} {ws : List W}, Ems Z st (ns.map U.bl) ws → ws = ns.map W.bl
  | [], _, .nil => rfl
  | n :: ns, _, .cons h r => by
    cases h
    rw [Ems.ofBls r]
    rfl
theorem blsW_map : ∀ ns : List Bool, blsW (ns.map W.bl) = some ns
  | [] => rfl
  | n :: ns => by
    show (match blsW (ns.map W.bl) with
      | some is => some (n :: is)
      | none => none) = _
    rw [blsW_map ns]
def allB : List Bool → Bool
  | [] => true
  | x :: xs => cond x (allB xs) false
def anyB : List Bool → Bool
  | [] => false
  | x :: xs => cond x true (anyB xs)
theorem allB_eq : ∀ xs : List Bool, allB xs = xs.all id
  | [] => rfl
  | x :: xs => by
    show cond x (allB xs) false = _
    rw [allB_eq xs, List.all_cons]
    cases x <;> rfl
theorem anyB_eq : ∀ xs : List Bool, anyB xs = xs.any id
  | [] => rfl
  | x :: xs => by
    show cond x true (anyB xs) = _
    rw [anyB_eq xs, List.any_cons]
    cases x <;> rfl
def allT : U → Option Bool
  | .lst us => bnd (blsU us) fun bs => some (allB bs)
  | _ => none
def anyT : U → Option Bool
  | .lst us => bnd (blsU us) fun bs => some (anyB bs)
  | _ => none
def blO (o : Option Bool) : Option U := bnd o fun b => some (.bl b)
theorem op_allU : OP1 gAll fun a => blO (allT a) := by
  intro a u e Z st wa hZ ha
  obtain ⟨b, e1, e⟩ := bnd_ok e
  cases e
  cases a with
  | lst us =>
    obtain ⟨ns, e2, e⟩ := bnd_ok e1
    cases e
    obtain ⟨n, ws, rfl, e3, r⟩ := emb_lst ha
    have := blsU_ok e2; subst this
    have := r.ofBls; subst this
    refine .here ?_ (.bl _)
    simp only [gAll, lblsW, e3, blsW_map]
    rw [allB_eq]
  | _ => cases e1
theorem op_anyU : OP1 gAny fun a => blO (anyT a) := by
  intro a u e Z st wa hZ ha
  obtain ⟨b, e1, e⟩ := bnd_ok e
  cases e
  cases a with
  | lst us =>
    obtain ⟨ns, e2, e⟩ := bnd_ok e1
    cases e
    obtain ⟨n, ws, rfl, e3, r⟩ := emb_lst ha
    have := blsU_ok e2; subst this
    have := r.ofBls; subst this
    refine .here ?_ (.bl _)
    simp only [gAny, lblsW, e3, blsW_map]
    rw [anyB_eq]
  | _ => cases e1
def maxLU : U → Option U
  | .lst us => bnd (intsU us) fun ns => match ns with
    | [] => none
    | n :: r => some (.int (greatest (n :: r)))
  | _ => none
def minLU : U → Option U
  | .lst us => bnd (intsU us) fun ns => match ns with
    | [] => none
    | n :: r => some (.int (least (n :: r)))
  | _ => none
theorem op_maxLU : OP1 gMaxL maxLU := by
  intro a u e Z st wa hZ ha
  cases a with
  | lst us =>
    obtain ⟨ns, e2, e⟩ := bnd_ok e
    cases ns with
    | nil => cases e
    | cons x xs =>
      cases e
      obtain ⟨n, ws, rfl, e3, r⟩ := emb_lst ha
      have := intsU_ok e2; subst this
      have := r.ofInts; subst this
      refine .here ?_ (.int _)
      simp only [gMaxL, lintsW, e3, intsW_map]
  | _ => cases e
theorem op_minLU : OP1 gMinL minLU := by
  intro a u e Z st wa hZ ha
  cases a with
  | lst us =>
    obtain ⟨ns, e2, e⟩ := bnd_ok e
    cases ns with
    | nil => cases e
    | cons x xs =>
      cases e
      obtain ⟨n, ws, rfl, e3, r⟩ := emb_lst ha
      have := intsU_ok e2; subst this
      have := r.ofInts; subst this
      refine .here ?_ (.int _)
      simp only [gMinL, lintsW, e3, intsW_map]
  | _ => cases e
def tupleU (u : U) : Option U := bnd (seqU u) fun us => some (.tup us)
theorem op_tupleU : OP1 gTuple tupleU := by
  intro a u e Z st wa hZ ha
  obtain ⟨us, e1, e⟩ := bnd_ok e
  cases e
  obtain ⟨ws, h1, r⟩ := seq_em ha e1
  exact .here (by simp only [gTuple, h1]) (.tup r)
theorem op_listL : OP1L gList seqU := by
  intro a us e Z st wa hZ ha
  obtain ⟨ws, h1, r⟩ := seq_em ha e
  exact .new hZ (by simp only [gList, h1]) r
def listU (u : U) : Option U := bnd (seqU u) fun us => some (.lst us)
theorem op_listU : OP1 gList listU := op_listL.v
def gcdU : U → U → Option U
  | .int i, .int j => some (.int (Int.ofNat (Nat.gcd i.natAbs j.natAbs)))
  | _, _ => none
theorem op_gcdU : OP2 gGcd gcdU := by
  intro a b u e Z st wa wb hZ ha hb
  cases a with
  | int i =>
    cases b with
    | int j =>
      cases e
      have := emb_int ha; subst this
      have := emb_int hb; subst this
      exact .here rfl (.int _)
    | _ => cases e
  | _ => cases b <;> cases e
/-- isinstance, one of the plain types -/
def isiT (n : String) : U → Option Bool
  | .non => some (isTyB "NoneType" n)
  | .bl _ => some (isTyB "bool" n)
  | .int _ => some (isTyB "int" n)
  | .str _ => some (isTyB "str" n)
  | .tup _ => some (isTyB "tuple" n)
  | .lst _ => some (isTyB "list" n)
  | .frz _ => some (isTyB "list" n)
  | .ty _ => none
theorem tyN_em {a : U} {wa : W} (ha : EmB Z st a wa) : match a with
    | .non => tyN wa = some "NoneType"
    | .bl _ => tyN wa = some "bool"
    | .int _ => tyN wa = some "int"
    | .str _ => tyN wa = some "str"
    | .tup _ => tyN wa = some "tuple"
    | .lst _ => tyN wa = some "list"
    | .frz _ => tyN wa = some "list"
    | .ty _ => True := by
  cases a with
  | non => have := emb_non ha; subst this; rfl
  | bl b => have := emb_bl ha; subst this; rfl
  | int b => have := emb_int ha; subst this; rfl
  | str b => have := emb_str ha; subst this; rfl
  | tup b => obtain ⟨ws, rfl, _⟩ := emb_tup ha; rfl
  | lst b => obtain ⟨n, ws, rfl, _⟩ := emb_lst ha; rfl
  | frz b => have := emb_frz ha; subst this; rfl
  | ty b => trivial
theorem isi_run {n : String} (hn : plainTy n = true) {a : U} {b : Bool} (e : isiT n a = some b) {wa : W} (ha : EmB Z st a wa) : gIsi wa (.ty n) st = .ok (.bl b) st := by
  have h := tyN_em ha
  unfold gIsi
  cases a with
  | ty _ => cases e
  | _ => cases e; simp only [] at h; rw [h]; simp only [isW, hn, if_true]
theorem isi2_run {n m : String} (hn : plainTy n = true ∧ plainTy m = true) {a : U} {b c : Bool} (e : isiT n a = some b) (e2 : isiT m a = some c) {wa : W} (ha : EmB Z st a wa) : gIsi wa (.tup [.ty n, .ty m]) st = .ok (.bl (b || c)) st := by
  have h := tyN_em ha
  unfold gIsi
  cases a with
  | ty _ => cases e
  | _ => cases e; cases e2; simp only [] at h; rw [h]; simp only [isW, hn.1, hn.2, and_self, if_true]

/-! ### truth -/
def truU : U → Option Bool
  | .non => some false
  | .bl b => some b
  | .int i => some (!eqI i 0)
  | .str y => cond (len5 y.length) (some ((y.length : Int) != 0)) none
  | .tup us => some (match us with
    | [] => false
    | _ :: _ => true)
  | .lst us => some (match us with
    | [] => false
    | _ :: _ => true)
  | .frz us => some (match us with
    | [] => false
    | _ :: _ => true)
  | .ty _ => none
theorem tru_em {a : U} {b : Bool} (e : truU a = some b) {wa : W} (ha : EmB Z st a wa) : truR wa st = .ok b st := by
  unfold truR
  cases a with
  | non => cases e; have := emb_non ha; subst this; rfl
  | bl b => cases e; have := emb_bl ha; subst this; rfl
  | int i =>
    cases e
    have := emb_int ha; subst this
    simp only [tru]
    rw [eqI_eq]
    rfl
  | str y =>
    obtain ⟨h, e⟩ := cond_so e
    cases e
    have := emb_str ha; subst this
    simp only [tru]
    rw [if_pos (len5_le h)]
  | tup us =>
    cases e
    obtain ⟨ws, rfl, r⟩ := emb_tup ha
    cases r <;> rfl
  | lst us =>
    cases e
    obtain ⟨n, ws, rfl, e1, r⟩ := emb_lst ha
    simp only [tru, e1]
    cases r <;> rfl
  | frz us =>
    cases e
    have := emb_frz ha; subst this
    cases us <;> rfl
  | ty _ => cases e

/-! ### sorted -/
mutual
def shpU : U → U → Bool
  | .int _, v => match v with
    | .int _ => true
    | _ => false
  | .tup us, v => match v with
    | .tup vs => shpUs us vs
    | _ => false
  | .non, v => match v with
    | .non => true
    | _ => false
  | .bl _, v => match v with
    | .bl _ => true
    | _ => false
  | .str _, v => match v with
    | .str _ => true
    | _ => false
  | .lst _, _ => false
  | .ty _, _ => false
  | .frz _, _ => false
def shpUs : List U → List U → Bool
  | [], v => match v with
    | [] => true
    | _ => false
  | x :: xs, v => match v with
    | y :: ys => cond (shpU x y) (shpUs xs ys) false
    | [] => false
end
mutual
theorem shp_toD : ∀ u v : U, shpU u v = true → shp (toD u) (toD v) = true
  | .int _, v, h => by
    cases v with
    | int _ => simp only [toD, shp]
    | _ => exact absurd h (by simp [shpU])
  | .non, v, h => by
    cases v with
    | non => simp only [toD, shp]
    | _ => exact absurd h (by simp [shpU])
  | .bl _, v, h => by
    cases v with
    | bl _ => simp only [toD, shp]
    | _ => exact absurd h (by simp [shpU])
  | .str _, v, h => by
    cases v with
    | str _ => simp only [toD, shp]
    | _ => exact absurd h (by simp [shpU])
  | .ty _, v, h => by simp [shpU] at h
  | .frz _, v, h => by simp [shpU] at h
  | .lst _, v, h => by simp [shpU] at h
  | .tup us, v, h => by
    cases v with
    | tup vs =>
      simp only [toD, shp]
      exact shps_toD us vs (by simpa only [shpU] using h)
    | _ => simp [shpU] at h
theorem shps_toD : ∀ us vs : List U, shpUs us vs = true → shps (toDs us) (toDs vs) = true
  | [], [], _ => by simp only [toDs, shps]
  | [], _ :: _, h => by simp [shpUs] at h
  | _ :: _, [], h => by simp [shpUs] at h
  | x :: xs, y :: ys, h => by
    obtain ⟨h1, h2⟩ := cond_tt (by simpa only [shpUs] using h)
    simp only [toDs, shps]
    rw [shp_toD x y h1, shps_toD xs ys h2]
    rfl
end
mutual
theorem shp_alikeU : ∀ a b c : U, shpU a b = true → shpU a c = true → alikeU b c = true
  | .int _, b, c, h, k => by
    cases b with
    | int _ =>
      cases c with
      | int _ => simp only [alikeU]
      | _ => exact absurd k (by simp [shpU])
    | _ => exact absurd h (by simp [shpU])
  | .non, b, c, h, k => by
    cases b with
    | non =>
      cases c with
      | non => simp only [alikeU]
      | _ => exact absurd k (by simp [shpU])
    | _ => exact absurd h (by simp [shpU])
  | .bl _, b, c, h, k => by
    cases b with
    | bl _ =>
      cases c with
      | bl _ => simp only [alikeU]
      | _ => exact absurd k (by simp [shpU])
    | _ => exact absurd h (by simp [shpU])
  | .str _, b, c, h, k => by
    cases b with
    | str _ =>
      cases c with
      | str _ => simp only [alikeU]
      | _ => exact absurd k (by simp [shpU])
    | _ => exact absurd h (by simp [shpU])
  | .ty _, _, _, h, _ => by simp [shpU] at h
  | .frz _, _, _, h, _ => by simp [shpU] at h
  | .lst _, _, _, h, _ => by simp [shpU] at h
  | .tup xs, b, c, h, k => by
    cases b with
    | tup ys =>
      cases c with
      | tup zs =>
        simp only [shpU] at h k
        simp only [alikeU]
        exact shps_alikeU xs ys zs h k
      | _ => exact absurd k (by simp [shpU])
    | _ => exact absurd h (by simp [shpU])
theorem shps_alikeU : ∀ a b c : List U, shpUs a b = true → shpUs a c = true → alikeUs b c = true
  | [], [], [], _, _ => by simp only [alikeUs]
  | x :: xs, y :: ys, z :: zs, h, k => by
    obtain ⟨h1, h2⟩ := cond_tt (by simpa only [shpUs] using h)
    obtain ⟨k1, k2⟩ := cond_tt (by simpa only [shpUs] using k)
    simp only [alikeUs]
    rw [shp_alikeU x y z h1 k1, shps_alikeU xs ys zs h2 k2]
    rfl
  | [], _ :: _, _, h, _ => by simp [shpUs] at h
  | [], [], _ :: _, _, h => by simp [shpUs] at h
  | _ :: _, [], _, h, _ => by simp [shpUs] at h
  | _ :: _, _ :: _, [], _, h => by simp [shpUs] at h
end
def allP {α : Type} (p : α → Bool) : List α → Bool
  | [] => true
  | x :: xs => cond (p x) (allP p xs) false
theorem allP_eq {α : Type} (p : α → Bool) : ∀ xs : List α, allP p xs = xs.all p
  | [] => rfl
  | x :: xs => by
    show cond (p x) (allP p xs) false = _
    rw [allP_eq p xs, List.all_cons]
    cases p x <;> rfl
def tup1U : U → Bool
  | .tup us => match us with
    | [] => false
    | _ :: _ => true
  | _ => false
def notupU : U → Bool
  | .int _ => true
  | .bl _ => true
  | .str _ => true
  | _ => false
def canSortU : List U → Bool
  | [] => true
  | u :: us => cond (cond (allP (shpU u) (u :: us)) true (allP (fun x => allP (alikeU x) (u :: us)) (u :: us))) (cond (allP tup1U (u :: us)) true (allP notupU (u :: us))) false
theorem toDs_map : ∀ us : List U, toDs us = us.map toD
  | [] => rfl
  | u :: us => by simp only [toDs, List.map_cons, toDs_map us]
theorem canSort_toD {us : List U} (h : canSortU us = true) : canSort (toDs us) = true ∧ ∀ a ∈ us, ∀ b ∈ us, alikeU a b = true := by
  cases us with
  | nil => exact ⟨rfl, by intro a ha; cases ha⟩
  | cons u us =>
    obtain ⟨h1, h2⟩ := cond_tt h
    have h3 : allP (shpU u) (u :: us) = true ∨ allP (fun x => allP (alikeU x) (u :: us)) (u :: us) = true := by
      cases e : allP (shpU u) (u :: us) with
      | true => exact .inl rfl
      | false => rw [e] at h1; exact .inr h1
    have h4 : allP tup1U (u :: us) = true ∨ allP notupU (u :: us) = true := by
      cases e : allP tup1U (u :: us) with
      | true => exact .inl rfl
      | false => rw [e] at h2; exact .inr h2
    rw [allP_eq, allP_eq] at h3
    rw [allP_eq, allP_eq] at h4
    constructor
    · unfold canSort
      rw [Bool.and_eq_true, toDs_map]
      constructor
      · show alk ((u :: us).map toD) = true
        rw [show alk ((u :: us).map toD) = (((u :: us).map toD).all (shp (toD u)) || ((u :: us).map toD).all fun x => ((u :: us).map toD).all (PySem.W.alike x)) from rfl]
        rcases h3 with h3 | h3
        · refine Bool.or_eq_true_iff.mpr (.inl ?_)
          rw [List.all_map]
          exact List.all_eq_true.mpr fun x hx => shp_toD u x (List.all_eq_true.mp h3 x hx)
        · refine Bool.or_eq_true_iff.mpr (.inr ?_)
          rw [List.all_map]
          refine List.all_eq_true.mpr fun x hx => ?_
          show List.all _ _ = true
          rw [List.all_map]
          refine List.all_eq_true.mpr fun y hy => ?_
          have := List.all_eq_true.mp h3 x hx
          rw [allP_eq] at this
          exact alike_toD x y (List.all_eq_true.mp this y hy)
      · rcases h4 with h4 | h4
        · refine Bool.or_eq_true_iff.mpr (.inl ?_)
          rw [List.all_map]
          refine List.all_eq_true.mpr fun x hx => ?_
          have := List.all_eq_true.mp h4 x hx
          cases x with
          | tup xs =>
            cases xs with
            | nil => cases this
            | cons y ys => simp only [Function.comp, toD, toDs, isT1]
          | _ => cases this
        · refine Bool.or_eq_true_iff.mpr (.inr ?_)
          rw [List.all_map]
          refine List.all_eq_true.mpr fun x hx => ?_
          have := List.all_eq_true.mp h4 x hx
          cases x <;> first | (show noT (toD _) = true; simp only [toD]; rfl) | cases this
    · intro a ha b hb
      rcases h3 with h3 | h3
      · exact shp_alikeU u a b (List.all_eq_true.mp h3 a ha) (List.all_eq_true.mp h3 b hb)
      · have := List.all_eq_true.mp h3 a ha
        rw [allP_eq] at this
        exact List.all_eq_true.mp this b hb
theorem insB_mapM {α β : Type} {lt : α → α → Bool} {ms : β → β → Bool} (f : α → β) (x : α) : ∀ ys : List α, (∀ y ∈ ys, lt y x = ms (f y) (f x)) → (insB lt x ys).map f = insB ms (f x) (ys.map f)
  | [], _ => rfl
  | y :: ys, h => by
    simp only [insB, List.map_cons]
    rw [← h y (by simp)]
    cases lt y x with
    | true => simp only [cond_true, List.map_cons]; rw [insB_mapM f x ys fun z hz => h z (List.mem_cons_of_mem _ hz)]
    | false => rfl
theorem sortB_mem {α : Type} {lt : α → α → Bool} {z : α} : ∀ ys : List α, z ∈ sortB lt ys → z ∈ ys
  | [], h => h
  | y :: ys, h => by
    rcases insB_mem _ h with rfl | h
    · simp
    · exact List.mem_cons_of_mem _ (sortB_mem ys h)
theorem sortB_mapM {α β : Type} {lt : α → α → Bool} {ms : β → β → Bool} (f : α → β) : ∀ ys : List α, (∀ a ∈ ys, ∀ b ∈ ys, lt a b = ms (f a) (f b)) → (sortB lt ys).map f = sortB ms (ys.map f)
  | [], _ => rfl
  | x :: ys, h => by
    show (insB lt x (sortB lt ys)).map f = insB ms (f x) (sortB ms (ys.map f))
    rw [insB_mapM f x _ fun y hy => h y (List.mem_cons_of_mem _ (sortB_mem ys hy)) x (by simp), sortB_mapM f ys fun a ha b hb => h a (List.mem_cons_of_mem _ ha) b (List.mem_cons_of_mem _ hb)]
theorem ems_zip : ∀ {us : List U} {ws : List W}, Ems Z st us ws → ∃ ps : List (U × W), ps.map Prod.fst = us ∧ ps.map Prod.snd = ws ∧ ∀ p ∈ ps, Em Z st p.1 p.2
  | _, _, .nil => ⟨[], rfl, rfl, by intro p hp; cases hp⟩
  | _, _, .cons (u := u) (w := w) h r => by
    obtain ⟨ps, h1, h2, h3⟩ := ems_zip r
    refine ⟨(u, w) :: ps, by simp [h1], by simp [h2], fun p hp => ?_⟩
    rcases List.mem_cons.mp hp with rfl | hp
    · exact h
    · exact h3 p hp
theorem ems_of : ∀ ps : List (U × W), (∀ p ∈ ps, Em Z st p.1 p.2) → Ems Z st (ps.map Prod.fst) (ps.map Prod.snd)
  | [], _ => .nil
  | p :: ps, h => .cons (h p (by simp)) (ems_of ps fun q hq => h q (List.mem_cons_of_mem _ hq))
theorem okUs_mem : ∀ {us : List U} {n : Nat}, okUs us n = true → ∀ u ∈ us, okU u n = true
  | [], _, _, u, hu => by cases hu
  | x :: xs, n, h, u, hu => by
    obtain ⟨h1, h2⟩ := cond_tt (by simpa only [okUs] using h)
    rcases List.mem_cons.mp hu with rfl | hu
    · exact h1
    · exact okUs_mem h2 u hu
theorem ems_sort {us : List U} {ws : List W} (r : Ems Z st us ws) (h : okUs us 12 = true) (hc : ∀ a ∈ us, ∀ b ∈ us, alikeU a b = true) : Ems Z st (sortB ltU us) (sortK (toDs us) ws) := by
  obtain ⟨ps, rfl, rfl, hp⟩ := ems_zip r
  have e1 : sortB ltU (ps.map Prod.fst) = (sortB (fun a b : U × W => ltU a.1 b.1) ps).map Prod.fst := (sortB_mapM Prod.fst ps fun a ha b hb => rfl).symm
  have e2 : sortK (toDs (ps.map Prod.fst)) (ps.map Prod.snd) = (sortB (fun a b : U × W => ltU a.1 b.1) ps).map Prod.snd := by
    unfold sortK
    rw [toDs_map, List.map_map, List.map_map, zip_of]
    rw [← sortB_mapM (lt := fun a b : U × W => ltU a.1 b.1) (ms := ltK) (fun p : U × W => (((PySem.W.keyToks ∘ toD) ∘ Prod.fst) p, p.2)) ps fun a ha b hb => ?_, List.map_map]
    · rfl
    · have ha' : a.1 ∈ ps.map Prod.fst := List.mem_map_of_mem ha
      have hb' : b.1 ∈ ps.map Prod.fst := List.mem_map_of_mem hb
      exact (lt_toD a.1 b.1 _ _ (okUs_mem h _ ha') (okUs_mem h _ hb') (hc _ ha' _ hb')).symm
  rw [e1, e2]
  exact ems_of _ fun p hq => hp p (sortB_mem ps hq)
def sortU (us : List U) : Option (List U) := cond (okUs us 12) (cond (canSortU us) (some (sortB ltU us)) none) none
def sortedL : U → Option (List U)
  | .lst us => sortU us
  | .tup us => sortU us
  | _ => none
theorem op_sortedL : OP1L gSorted sortedL := by
  intro a u e Z st wa hZ ha
  cases a with
  | lst us =>
    obtain ⟨h1, e⟩ := cond_so e
    obtain ⟨h2, e⟩ := cond_so e
    cases e
    obtain ⟨n, ws, rfl, e1, r1⟩ := emb_lst ha
    obtain ⟨c1, c2⟩ := canSort_toD h2
    refine .new hZ ?_ (ems_sort r1 h1 c2)
    unfold gSorted
    simp only [e1]
    rw [dat_ems r1 (n := deep) h1]
    simp only []
    rw [if_pos c1]
  | tup us =>
    obtain ⟨h1, e⟩ := cond_so e
    obtain ⟨h2, e⟩ := cond_so e
    cases e
    obtain ⟨ws, rfl, r1⟩ := emb_tup ha
    obtain ⟨c1, c2⟩ := canSort_toD h2
    refine .new hZ ?_ (ems_sort r1 h1 c2)
    unfold gSorted
    simp only []
    rw [dat_ems r1 (n := deep) h1]
    simp only []
    rw [if_pos c1]
  | _ => cases e
def sortedU (u : U) : Option U := bnd (sortedL u) fun us => some (.lst us)
theorem op_sortedU : OP1 gSorted sortedU := op_sortedL.v

/-! ### ranges -/
def rngU : Int → Nat → List U
  | _, 0 => []
  | i, n + 1 => .int i :: rngU (Int.add i 1) n
theorem rng_em : ∀ (n : Nat) (i : Int), Ems Z st (rngU i n) (rngW i 1 n)
  | 0, _ => .nil
  | n + 1, i => .cons (.int i) (rng_em n (i + 1))
def rngD : Int → Nat → List U
  | _, 0 => []
  | i, n + 1 => .int i :: rngD (Int.sub i 1) n
theorem rngD_em : ∀ (n : Nat) (i : Int), Ems Z st (rngD i n) (rngW i (-1) n)
  | 0, _ => .nil
  | n + 1, i => .cons (.int i) (by
    have : Int.sub i 1 = i + -1 := by rw [Int.sub_eq_add_neg.symm]; rfl
    show Ems Z st (rngD (Int.sub i 1) n) _
    rw [this]
    exact rngD_em n (i + -1))
def rngS (c : Int) : Int → Nat → List U
  | _, 0 => []
  | i, n + 1 => .int i :: rngS c (Int.add i c) n
theorem rngS_em (c : Int) : ∀ (n : Nat) (i : Int), Ems Z st (rngS c i n) (rngW i c n)
  | 0, _ => .nil
  | n + 1, i => .cons (.int i) (rngS_em c n (i + c))
/-- by size at most 1,000,000 -/
def mid (i : Int) : Bool := match i with
  | .ofNat n => Nat.ble n 400000
  | .negSucc n => Nat.ble n 400000
theorem mid_ok {i : Int} (h : mid i = true) : -400001 ≤ i ∧ i ≤ 400000 := by
  cases i with
  | ofNat n =>
    have := Nat.le_of_ble_eq_true h
    simp only [Int.ofNat_eq_natCast]
    omega
  | negSucc n =>
    have := Nat.le_of_ble_eq_true h
    omega
theorem mid_rng {i : Int} (h : mid i = true) : rngOk i = true := by
  have := mid_ok h
  unfold rngOk
  simp
  omega
def range1 : U → Option (List U)
  | .int j => cond (mid j) (some (rngU 0 j.toNat)) none
  | _ => none
def range2 : U → U → Option (List U)
  | .int i, .int j => cond (mid i) (cond (mid j) (some (rngU i (Int.sub j i).toNat)) none) none
  | _, _ => none
def range3D : U → U → Option (List U)
  | .int i, .int j => cond (mid i) (cond (mid j) (some (rngD i (Int.sub i j).toNat)) none) none
  | _, _ => none
def range3 : U → U → U → Option (List U)
  | .int i, .int j, .int c => if c ≠ 0 ∧ c.natAbs < 1073741824 ∧ Builtin.Range.small i j c = true ∧ 0 ≤ Builtin.Range.rangeSize i j c then some (rngS c i (Builtin.Range.rangeSize i j c).toNat) else none
  | _, _, _ => none
end
end
end Rx

/-! UxD: rules: expressions, tests, what is walked, comprehensions. -/
namespace Rx
open PySem PySem.Spec PyProof.Rows L2
noncomputable section
/-- an expression with a value -/
def EV (A : List AV) (m : EX) (t : Option U) : Prop := ∀ u, t = some u → ∀ O r M st env, EmA O r M st A env → AnsV (Zs O M) st (m env st) u
/-- .. that may be a list of the def's own -/
def EB (A : List AV) (m : EX) (t : Option U) : Prop := ∀ u, t = some u → ∀ O r M st env, EmA O r M st A env → ∃ w g, m env st = .ok w (st ++ g) ∧ EmB (Zs O M) (st ++ g) u w
/-- .. that is a new list -/
def EL (A : List AV) (m : EX) (t : Option (List U)) : Prop := ∀ us, t = some us → ∀ O r M st env, EmA O r M st A env → AnsL (Zs O M) st (m env st) us
def TV (A : List AV) (m : TX) (t : Option Bool) : Prop := ∀ b, t = some b → ∀ O r M st env, EmA O r M st A env → ∃ g, m env st = .ok b (st ++ g)
def OV (A : List AV) (m : OX) (t : Option (Option Int)) : Prop := ∀ b, t = some b → ∀ O r M st env, EmA O r M st A env → ∃ g, m env st = .ok b (st ++ g)
section
variable {A : List AV} {O M : Nat → Prop} {r : Option Nat} {st : Sto} {env : Env'}
theorem EmA.bd (E : EmA O r M st A env) : Bd (Zs O M) st := fun n z => z.elim (E.bO n) fun z => (E.bM n z).1
variable {m ma mb mc : EX} {t ta tb tc : Option U}
theorem EV.b (h : EV A m t) : EB A m t := fun u e O r M st env E => let ⟨w, g, h1, h2⟩ := h u e O r M st env E; ⟨w, g, h1, h2.b⟩
theorem EL.v {t : Option (List U)} (h : EL A m t) : EV A m (bnd t fun us => some (.lst us)) := by
  intro u e O r M st env E
  obtain ⟨us, e1, e2⟩ := bnd_ok e
  cases e2
  exact (h us e1 O r M st env E).v E.bd
theorem eb_own {i : Nat} {b : Bool} {us : List U} (h : A[i]? = some (.own b us)) : EB A (evar i) (some (.lst us)) := by
  intro u e O r M st env E
  cases e
  obtain ⟨n, ws, e1, _, e2, r2⟩ := E.own h
  refine ⟨.ls n, [], ?_, .inr ⟨us, n, ws, rfl, rfl, ?_, ?_⟩⟩
  · unfold evar
    rw [e1, List.append_nil]
  · rw [List.append_nil]; exact e2
  · rw [List.append_nil]; exact r2
theorem ev_var {i : Nat} {u : U} (h : A[i]? = some (.val u)) : EV A (evar i) (some u) := by
  intro v e O r M st env E
  cases e
  obtain ⟨w, e1, e2⟩ := E.val h
  exact .here (by unfold evar; rw [e1]) e2
theorem ev_int {i : Int} : EV A (cst (.int i)) (some (.int i)) := fun u e O r M st env E => by cases e; exact .here rfl (.int i)
theorem ev_bl {i : Bool} : EV A (cst (.bl i)) (some (.bl i)) := fun u e O r M st env E => by cases e; exact .here rfl (.bl i)
theorem ev_str {i : Str} : EV A (cst (.str i)) (some (.str i)) := fun u e O r M st env E => by cases e; exact .here rfl (.str i)
theorem ev_non : EV A (cst .non) (some .non) := fun u e O r M st env E => by cases e; exact .here rfl .non
/-- a written tuple of numbers and texts -/
theorem ev_cst {w : W} {u : U} (h : ∀ Z st, Em Z st u w) : EV A (cst w) (some u) := fun v e O r M st env E => by cases e; exact .here rfl (h _ _)
theorem ev_cast {t t' : Option U} (h : EV A m t) (e : t' = t) : EV A m t' := e ▸ h
theorem EmB.ans {Z : Nat → Prop} {g : Sto} {u : U} {rr : R W} (h : AnsV Z (st ++ g) rr u) : AnsV Z st rr u := by
  obtain ⟨w, g', e, q⟩ := h
  exact ⟨w, g ++ g', by rw [← List.append_assoc]; exact e, by rw [← List.append_assoc]; exact q⟩
theorem AnsL.ans {Z : Nat → Prop} {g : Sto} {u : List U} {rr : R W} (h : AnsL Z (st ++ g) rr u) : AnsL Z st rr u := by
  obtain ⟨n, ws, g', e, hn, q1, q2⟩ := h
  exact ⟨n, ws, g ++ g', by rw [← List.append_assoc]; exact e, by rw [List.length_append] at hn; omega, by rw [← List.append_assoc]; exact q1, by rw [← List.append_assoc]; exact q2⟩
theorem ev_bin {f : W → W → Sto → R W} {p : U → U → Option U} (hp : OP2 f p) (ha : EB A ma ta) (hb : EB A mb tb) : EV A (eBin f ma mb) (bnd ta fun a => bnd tb fun b => p a b) := by
  intro u e O r M st env E
  obtain ⟨a, e1, e⟩ := bnd_ok e
  obtain ⟨b, e2, e⟩ := bnd_ok e
  obtain ⟨wa, g1, h1, q1⟩ := ha a e1 O r M st env E
  obtain ⟨wb, g2, h2, q2⟩ := hb b e2 O r M _ env (E.ext g1)
  have := hp a b u e (Zs O M) _ wa wb ((E.ext g1).ext g2).bd (q1.ext g2) q2
  unfold eBin
  simp only [R.bind, h1, h2]
  exact EmB.ans (EmB.ans this)
theorem el_bin {f : W → W → Sto → R W} {p : U → U → Option (List U)} (hp : OP2L f p) (ha : EB A ma ta) (hb : EB A mb tb) : EL A (eBin f ma mb) (bnd ta fun a => bnd tb fun b => p a b) := by
  intro u e O r M st env E
  obtain ⟨a, e1, e⟩ := bnd_ok e
  obtain ⟨b, e2, e⟩ := bnd_ok e
  obtain ⟨wa, g1, h1, q1⟩ := ha a e1 O r M st env E
  obtain ⟨wb, g2, h2, q2⟩ := hb b e2 O r M _ env (E.ext g1)
  have := hp a b u e (Zs O M) _ wa wb ((E.ext g1).ext g2).bd (q1.ext g2) q2
  unfold eBin
  simp only [R.bind, h1, h2]
  exact AnsL.ans (AnsL.ans this)
theorem ev_cmp {f : W → W → Sto → R W} {p : U → U → Option Bool} (hp : OPB f p) (ha : EB A ma ta) (hb : EB A mb tb) : EV A (eBin f ma mb) (bnd ta fun a => bnd tb fun b => bnd (p a b) fun c => some (.bl c)) := ev_bin hp.v ha hb
theorem tv_cmp {f : W → W → Sto → R W} {p : U → U → Option Bool} (hp : OPB f p) (ha : EB A ma ta) (hb : EB A mb tb) : TV A (tBl (eBin f ma mb)) (bnd ta fun a => bnd tb fun b => p a b) := by
  intro u e O r M st env E
  obtain ⟨a, e1, e⟩ := bnd_ok e
  obtain ⟨b, e2, e⟩ := bnd_ok e
  obtain ⟨wa, g1, h1, q1⟩ := ha a e1 O r M st env E
  obtain ⟨wb, g2, h2, q2⟩ := hb b e2 O r M _ env (E.ext g1)
  refine ⟨g1 ++ g2, ?_⟩
  unfold tBl eBin
  simp only [R.bind, h1, h2, hp a b u e (Zs O M) _ wa wb (q1.ext g2) q2]
  rw [List.append_assoc]
theorem ev_un {f : W → Sto → R W} {p : U → Option U} (hp : OP1 f p) (ha : EB A ma ta) : EV A (eUn f ma) (bnd ta p) := by
  intro u e O r M st env E
  obtain ⟨a, e1, e⟩ := bnd_ok e
  obtain ⟨wa, g1, h1, q1⟩ := ha a e1 O r M st env E
  have := hp a u e (Zs O M) _ wa (E.ext g1).bd q1
  unfold eUn
  simp only [R.bind, h1]
  exact EmB.ans this
theorem el_un {f : W → Sto → R W} {p : U → Option (List U)} (hp : OP1L f p) (ha : EB A ma ta) : EL A (eUn f ma) (bnd ta p) := by
  intro u e O r M st env E
  obtain ⟨a, e1, e⟩ := bnd_ok e
  obtain ⟨wa, g1, h1, q1⟩ := ha a e1 O r M st env E
  have := hp a u e (Zs O M) _ wa (E.ext g1).bd q1
  unfold eUn
  simp only [R.bind, h1]
  exact AnsL.ans this
theorem ev_f1 {f : W → Sto → R W} {p : U → Option U} (hp : OP1 f p) (ha : EB A ma ta) : EV A (eCall (f1 f) (aCons ma aNil)) (bnd ta p) := by
  intro u e O r M st env E
  obtain ⟨a, e1, e⟩ := bnd_ok e
  obtain ⟨wa, g1, h1, q1⟩ := ha a e1 O r M st env E
  have := hp a u e (Zs O M) _ wa (E.ext g1).bd q1
  unfold eCall aCons aNil f1
  simp only [R.bind, h1]
  exact EmB.ans this
theorem el_f1 {f : W → Sto → R W} {p : U → Option (List U)} (hp : OP1L f p) (ha : EB A ma ta) : EL A (eCall (f1 f) (aCons ma aNil)) (bnd ta p) := by
  intro u e O r M st env E
  obtain ⟨a, e1, e⟩ := bnd_ok e
  obtain ⟨wa, g1, h1, q1⟩ := ha a e1 O r M st env E
  have := hp a u e (Zs O M) _ wa (E.ext g1).bd q1
  unfold eCall aCons aNil f1
  simp only [R.bind, h1]
  exact AnsL.ans this
theorem ev_f2 {f : W → W → Sto → R W} {p : U → U → Option U} (hp : OP2 f p) (ha : EB A ma ta) (hb : EB A mb tb) : EV A (eCall (f2 f) (aCons ma (aCons mb aNil))) (bnd ta fun a => bnd tb fun b => p a b) := by
  intro u e O r M st env E
  obtain ⟨a, e1, e⟩ := bnd_ok e
  obtain ⟨b, e2, e⟩ := bnd_ok e
  obtain ⟨wa, g1, h1, q1⟩ := ha a e1 O r M st env E
  obtain ⟨wb, g2, h2, q2⟩ := hb b e2 O r M _ env (E.ext g1)
  have := hp a b u e (Zs O M) _ wa wb ((E.ext g1).ext g2).bd (q1.ext g2) q2
  unfold eCall aCons aNil f2
  simp only [R.bind, h1, h2]
  exact EmB.ans (EmB.ans this)
theorem ev_g1 {F : FX} {f : W → Sto → R W} {p : U → Option U} (hF : ∀ a st, F [a] st = f a st) (hp : OP1 f p) (ha : EB A ma ta) : EV A (eCall F (aCons ma aNil)) (bnd ta p) := by
  intro u e O r M st env E
  obtain ⟨a, e1, e⟩ := bnd_ok e
  obtain ⟨wa, g1, h1, q1⟩ := ha a e1 O r M st env E
  have := hp a u e (Zs O M) _ wa (E.ext g1).bd q1
  unfold eCall aCons aNil
  simp only [R.bind, h1, hF]
  exact EmB.ans this
theorem ev_g2 {F : FX} {f : W → W → Sto → R W} {p : U → U → Option U} (hF : ∀ a b st, F [a, b] st = f a b st) (hp : OP2 f p) (ha : EB A ma ta) (hb : EB A mb tb) : EV A (eCall F (aCons ma (aCons mb aNil))) (bnd ta fun a => bnd tb fun b => p a b) := by
  intro u e O r M st env E
  obtain ⟨a, e1, e⟩ := bnd_ok e
  obtain ⟨b, e2, e⟩ := bnd_ok e
  obtain ⟨wa, g1, h1, q1⟩ := ha a e1 O r M st env E
  obtain ⟨wb, g2, h2, q2⟩ := hb b e2 O r M _ env (E.ext g1)
  have := hp a b u e (Zs O M) _ wa wb ((E.ext g1).ext g2).bd (q1.ext g2) q2
  unfold eCall aCons aNil
  simp only [R.bind, h1, h2, hF]
  exact EmB.ans (EmB.ans this)
theorem ev_max1 (ha : EB A ma ta) : EV A (eCall fMax (aCons ma aNil)) (bnd ta maxLU) := ev_g1 (fun _ _ => rfl) op_maxLU ha
theorem ev_min1 (ha : EB A ma ta) : EV A (eCall fMin (aCons ma aNil)) (bnd ta minLU) := ev_g1 (fun _ _ => rfl) op_minLU ha
theorem ev_max2 (ha : EB A ma ta) (hb : EB A mb tb) : EV A (eCall fMax (aCons ma (aCons mb aNil))) (bnd ta fun a => bnd tb fun b => max2U a b) := ev_g2 (fun _ _ _ => rfl) op_max2U ha hb
theorem ev_min2 (ha : EB A ma ta) (hb : EB A mb tb) : EV A (eCall fMin (aCons ma (aCons mb aNil))) (bnd ta fun a => bnd tb fun b => min2U a b) := ev_g2 (fun _ _ _ => rfl) op_min2U ha hb
theorem ev_isi {n : String} (hn : plainTy n = true) (ha : EB A ma ta) : EV A (eCall (f2 gIsi) (aCons ma (aCons (cst (.ty n)) aNil))) (bnd ta fun a => blO (isiT n a)) := by
  intro u e O r M st env E
  obtain ⟨a, e1, e⟩ := bnd_ok e
  obtain ⟨b, e2, e⟩ := bnd_ok e
  cases e
  obtain ⟨wa, g1, h1, q1⟩ := ha a e1 O r M st env E
  refine ⟨.bl b, g1, ?_, .bl b⟩
  unfold eCall aCons aNil f2 cst
  simp only [R.bind, h1]
  exact isi_run hn e2 q1
theorem ev_isi2 {n k : String} (hn : plainTy n = true ∧ plainTy k = true) (ha : EB A ma ta) : EV A (eCall (f2 gIsi) (aCons ma (aCons (eTup (aCons (cst (.ty n)) (aCons (cst (.ty k)) aNil))) aNil))) (bnd ta fun a => blO (bnd (isiT n a) fun b => bnd (isiT k a) fun c => some (b || c))) := by
  intro u e O r M st env E
  obtain ⟨a, e1, e⟩ := bnd_ok e
  obtain ⟨b, e2, e⟩ := bnd_ok e
  obtain ⟨c, e3, e2⟩ := bnd_ok e2
  obtain ⟨d, e4, e2⟩ := bnd_ok e2
  cases e2
  cases e
  obtain ⟨wa, g1, h1, q1⟩ := ha a e1 O r M st env E
  refine ⟨.bl _, g1, ?_, .bl _⟩
  unfold eCall eTup aCons aNil f2 cst
  simp only [R.bind, h1]
  exact isi2_run hn e3 e4 q1

/-! ### tests -/
theorem tv_tru (ha : EB A ma ta) : TV A (tTru ma) (bnd ta truU) := by
  intro b e O r M st env E
  obtain ⟨a, e1, e⟩ := bnd_ok e
  obtain ⟨wa, g1, h1, q1⟩ := ha a e1 O r M st env E
  refine ⟨g1, ?_⟩
  unfold tTru
  simp only [R.bind, h1]
  exact tru_em e q1
/-- .. of a truth value -/
def asBl : U → Option Bool
  | .bl b => some b
  | _ => none
theorem tv_bl (ha : EB A ma ta) : TV A (tBl ma) (bnd ta asBl) := by
  intro b e O r M st env E
  obtain ⟨a, e1, e⟩ := bnd_ok e
  obtain ⟨wa, g1, h1, q1⟩ := ha a e1 O r M st env E
  refine ⟨g1, ?_⟩
  cases a with
  | bl c =>
    cases e
    have := emb_bl q1; subst this
    unfold tBl
    simp only [R.bind, h1]
  | _ => cases e
variable {n n2 : TX} {s s2 : Option Bool}
theorem tv_not (h : TV A n s) : TV A (tNotM n) (bnd s fun b => some (!b)) := by
  intro b e O r M st env E
  obtain ⟨c, e1, e⟩ := bnd_ok e
  cases e
  obtain ⟨g, h1⟩ := h c e1 O r M st env E
  exact ⟨g, by unfold tNotM; simp only [R.bind, h1]⟩
theorem tv_and (h : TV A n s) (k : TV A n2 s2) : TV A (tAndM n n2) (bnd s fun b => cond b s2 (some false)) := by
  intro b e O r M st env E
  obtain ⟨c, e1, e⟩ := bnd_ok e
  obtain ⟨g, h1⟩ := h c e1 O r M st env E
  cases c with
  | false =>
    cases e
    exact ⟨g, by unfold tAndM; simp only [R.bind, h1]; rfl⟩
  | true =>
    obtain ⟨g2, h2⟩ := k b e O r M _ env (E.ext g)
    refine ⟨g ++ g2, ?_⟩
    unfold tAndM
    simp only [R.bind, h1]
    simp only [if_true, h2, List.append_assoc]
theorem tv_or (h : TV A n s) (k : TV A n2 s2) : TV A (tOrM n n2) (bnd s fun b => cond b (some true) s2) := by
  intro b e O r M st env E
  obtain ⟨c, e1, e⟩ := bnd_ok e
  obtain ⟨g, h1⟩ := h c e1 O r M st env E
  cases c with
  | true =>
    cases e
    exact ⟨g, by unfold tOrM; simp only [R.bind, h1]; rfl⟩
  | false =>
    obtain ⟨g2, h2⟩ := k b e O r M _ env (E.ext g)
    refine ⟨g ++ g2, ?_⟩
    unfold tOrM
    simp only [R.bind, h1]
    simp only [Bool.false_eq_true, if_false, h2, List.append_assoc]
theorem tv_yes : TV A tYesM (some true) := fun b e O r M st env E => by cases e; exact ⟨[], by simp [tYesM]⟩
/-- a chain of two -/
theorem tv_chain {f g : W → W → Sto → R W} {p q : U → U → Option Bool} (hp : OPB f p) (hq : OPB g q) (ha : EB A ma ta) (hb : EB A mb tb) (hc : EB A mc tc) : TV A (tBl (eChain f g ma mb mc)) (bnd ta fun a => bnd tb fun b => bnd (p a b) fun k => cond k (bnd tc fun c => q b c) (some false)) := by
  intro u e O r M st env E
  obtain ⟨a, e1, e⟩ := bnd_ok e
  obtain ⟨b, e2, e⟩ := bnd_ok e
  obtain ⟨k, e3, e⟩ := bnd_ok e
  obtain ⟨wa, g1, h1, q1⟩ := ha a e1 O r M st env E
  obtain ⟨wb, g2, h2, q2⟩ := hb b e2 O r M _ env (E.ext g1)
  have h3 := hp a b k e3 (Zs O M) _ wa wb (q1.ext g2) q2
  unfold tBl eChain
  simp only [R.bind, h1, h2, h3]
  cases k with
  | false =>
    cases e
    exact ⟨g1 ++ g2, by rw [← List.append_assoc]⟩
  | true =>
    obtain ⟨c, e4, e⟩ := bnd_ok e
    obtain ⟨wc, g3, h4, q3⟩ := hc c e4 O r M _ env ((E.ext g1).ext g2)
    simp only [h4, hq b c u e (Zs O M) _ wb wc (q2.ext g3) q3]
    exact ⟨g1 ++ (g2 ++ g3), by simp only [List.append_assoc]⟩
theorem tv_chain3 {f g h : W → W → Sto → R W} {p q l : U → U → Option Bool} {md : EX} {td : Option U} (hp : OPB f p) (hq : OPB g q) (hl : OPB h l) (ha : EB A ma ta) (hb : EB A mb tb) (hc : EB A mc tc) (hd : EB A md td) : TV A (tBl (eChain3 f g h ma mb mc md)) (bnd ta fun a => bnd tb fun b => bnd (p a b) fun k => cond k (bnd tc fun c => bnd (q b c) fun k2 => cond k2 (bnd td fun d => l c d) (some false)) (some false)) := by
  intro u e O r M st env E
  obtain ⟨a, e1, e⟩ := bnd_ok e
  obtain ⟨b, e2, e⟩ := bnd_ok e
  obtain ⟨k, e3, e⟩ := bnd_ok e
  obtain ⟨wa, g1, h1, q1⟩ := ha a e1 O r M st env E
  obtain ⟨wb, g2, h2, q2⟩ := hb b e2 O r M _ env (E.ext g1)
  have h3 := hp a b k e3 (Zs O M) _ wa wb (q1.ext g2) q2
  unfold tBl eChain3
  simp only [R.bind, h1, h2, h3]
  cases k with
  | false =>
    cases e
    exact ⟨g1 ++ g2, by rw [← List.append_assoc]⟩
  | true =>
    obtain ⟨c, e4, e⟩ := bnd_ok e
    obtain ⟨k2, e5, e⟩ := bnd_ok e
    obtain ⟨wc, g3, h4, q3⟩ := hc c e4 O r M _ env ((E.ext g1).ext g2)
    have h5 := hq b c k2 e5 (Zs O M) _ wb wc (q2.ext g3) q3
    simp only [h4, h5]
    cases k2 with
    | false =>
      cases e
      exact ⟨g1 ++ (g2 ++ g3), by simp only [List.append_assoc]⟩
    | true =>
      obtain ⟨d, e6, e⟩ := bnd_ok e
      obtain ⟨wd, g4, h6, q4⟩ := hd d e6 O r M _ env (((E.ext g1).ext g2).ext g3)
      simp only [h6, hl c d u e (Zs O M) _ wc wd (q3.ext g4) q4]
      exact ⟨g1 ++ (g2 ++ (g3 ++ g4)), by simp only [List.append_assoc]⟩
/-- a test as a value -/
theorem ev_chain {f g : W → W → Sto → R W} {p q : U → U → Option Bool} (hp : OPB f p) (hq : OPB g q) (ha : EB A ma ta) (hb : EB A mb tb) (hc : EB A mc tc) : EV A (eChain f g ma mb mc) (blO (bnd ta fun a => bnd tb fun b => bnd (p a b) fun k => cond k (bnd tc fun c => q b c) (some false))) := by
  intro u e0 O r M st env E
  obtain ⟨v, e, ev⟩ := bnd_ok e0
  cases ev
  clear e0
  obtain ⟨a, e1, e⟩ := bnd_ok e
  obtain ⟨b, e2, e⟩ := bnd_ok e
  obtain ⟨k, e3, e⟩ := bnd_ok e
  obtain ⟨wa, g1, h1, q1⟩ := ha a e1 O r M st env E
  obtain ⟨wb, g2, h2, q2⟩ := hb b e2 O r M _ env (E.ext g1)
  have h3 := hp a b k e3 (Zs O M) _ wa wb (q1.ext g2) q2
  unfold eChain
  simp only [R.bind, h1, h2, h3]
  cases k with
  | false =>
    cases e
    exact ⟨.bl false, g1 ++ g2, by rw [← List.append_assoc], .bl _⟩
  | true =>
    obtain ⟨c, e4, e⟩ := bnd_ok e
    obtain ⟨wc, g3, h4, q3⟩ := hc c e4 O r M _ env ((E.ext g1).ext g2)
    simp only [h4, hq b c v e (Zs O M) _ wb wc (q2.ext g3) q3]
    exact ⟨.bl v, g1 ++ (g2 ++ g3), by simp only [List.append_assoc], .bl _⟩
theorem ev_and (ha : EV A ma ta) (hb : EV A mb tb) : EV A (eAnd ma mb) (bnd ta fun a => bnd (truU a) fun b => cond b tb (some a)) := by
  intro u e O r M st env E
  obtain ⟨a, e1, e⟩ := bnd_ok e
  obtain ⟨b, e2, e⟩ := bnd_ok e
  obtain ⟨wa, g1, h1, q1⟩ := ha a e1 O r M st env E
  unfold eAnd
  simp only [R.bind, h1, tru_em e2 q1.b]
  cases b with
  | false => cases e; exact ⟨wa, g1, rfl, q1⟩
  | true => simp only [if_true]; exact EmB.ans (hb u e O r M _ env (E.ext g1))
theorem ev_or (ha : EV A ma ta) (hb : EV A mb tb) : EV A (eOr ma mb) (bnd ta fun a => bnd (truU a) fun b => cond b (some a) tb) := by
  intro u e O r M st env E
  obtain ⟨a, e1, e⟩ := bnd_ok e
  obtain ⟨b, e2, e⟩ := bnd_ok e
  obtain ⟨wa, g1, h1, q1⟩ := ha a e1 O r M st env E
  unfold eOr
  simp only [R.bind, h1, tru_em e2 q1.b]
  cases b with
  | true => cases e; exact ⟨wa, g1, rfl, q1⟩
  | false => simp only [Bool.false_eq_true, if_false]; exact EmB.ans (hb u e O r M _ env (E.ext g1))
theorem ev_not (ha : EB A ma ta) : EV A (eNot ma) (bnd ta fun a => bnd (truU a) fun b => some (.bl (!b))) := by
  intro u e O r M st env E
  obtain ⟨a, e1, e⟩ := bnd_ok e
  obtain ⟨b, e2, e⟩ := bnd_ok e
  cases e
  obtain ⟨wa, g1, h1, q1⟩ := ha a e1 O r M st env E
  unfold eNot
  simp only [R.bind, h1, tru_em e2 q1]
  exact ⟨.bl (!b), g1, rfl, .bl _⟩
theorem ev_if (h : TV A n s) (ha : EV A ma ta) (hb : EV A mb tb) : EV A (eIf n ma mb) (bnd s fun b => cond b ta tb) := by
  intro u e O r M st env E
  obtain ⟨b, e1, e⟩ := bnd_ok e
  obtain ⟨g, h1⟩ := h b e1 O r M st env E
  unfold eIf
  simp only [R.bind, h1]
  cases b with
  | true => simp only [if_true]; exact EmB.ans (ha u e O r M _ env (E.ext g))
  | false => simp only [Bool.false_eq_true, if_false]; exact EmB.ans (hb u e O r M _ env (E.ext g))
theorem el_if {ta tb : Option (List U)} (h : TV A n s) (ha : EL A ma ta) (hb : EL A mb tb) : EL A (eIf n ma mb) (bnd s fun b => cond b ta tb) := by
  intro u e O r M st env E
  obtain ⟨b, e1, e⟩ := bnd_ok e
  obtain ⟨g, h1⟩ := h b e1 O r M st env E
  unfold eIf
  simp only [R.bind, h1]
  cases b with
  | true => simp only [if_true]; exact AnsL.ans (ha u e O r M _ env (E.ext g))
  | false => simp only [Bool.false_eq_true, if_false]; exact AnsL.ans (hb u e O r M _ env (E.ext g))

/-! ### rows of expressions -/
def EA (A : List AV) (m : AX) (t : Option (List U)) : Prop := ∀ us, t = some us → ∀ O r M st env, EmA O r M st A env → ∃ ws g, m env st = .ok ws (st ++ g) ∧ Ems (Zs O M) (st ++ g) us ws
theorem ea_nil : EA A aNil (some []) := fun us e O r M st env E => by cases e; exact ⟨[], [], by simp [aNil], .nil⟩
theorem ea_cons {m : EX} {n : AX} {t : Option U} {s : Option (List U)} (h : EV A m t) (k : EA A n s) : EA A (aCons m n) (bnd t fun u => bnd s fun us => some (u :: us)) := by
  intro us e O r M st env E
  obtain ⟨a, e1, e⟩ := bnd_ok e
  obtain ⟨b, e2, e⟩ := bnd_ok e
  cases e
  obtain ⟨wa, g1, h1, q1⟩ := h a e1 O r M st env E
  obtain ⟨ws, g2, h2, q2⟩ := k b e2 O r M _ env (E.ext g1)
  refine ⟨wa :: ws, g1 ++ g2, ?_, by rw [← List.append_assoc]; exact .cons (q1.ext g2) q2⟩
  unfold aCons
  simp only [R.bind, h1, h2, List.append_assoc]
theorem Ems.len {Z : Nat → Prop} {us : List U} {ws : List W} (h : Ems Z st us ws) : ws.length = us.length := h.length.symm
theorem ev_tup {m : AX} {t : Option (List U)} (h : EA A m t) : EV A (eTup m) (bnd t fun us => cond (len5 us.length) (some (.tup us)) none) := by
  intro u e O r M st env E
  obtain ⟨us, e1, e⟩ := bnd_ok e
  obtain ⟨hl, e⟩ := cond_so e
  cases e
  obtain ⟨ws, g, h1, q⟩ := h us e1 O r M st env E
  refine ⟨.tup ws, g, ?_, .tup q⟩
  unfold eTup
  simp only [R.bind, h1]
  rw [if_pos (by rw [q.len]; exact len5_le hl)]
theorem el_lst {m : AX} {t : Option (List U)} (h : EA A m t) : EL A (eLst m) (bnd t fun us => cond (len5 us.length) (some us) none) := by
  intro u e O r M st env E
  obtain ⟨us, e1, e⟩ := bnd_ok e
  obtain ⟨hl, e⟩ := cond_so e
  cases e
  obtain ⟨ws, g, h1, q⟩ := h _ e1 O r M st env E
  refine AnsL.ans (g := g) (AnsL.new (E.ext g).bd (ws := ws) ?_ q)
  unfold eLst
  simp only [R.bind, h1]
  rw [if_pos (by rw [q.len]; exact len5_le hl)]
theorem ev_tup1 {m1 : EX} {t1 : Option U} (h1 : EV A m1 t1) : EV A (eTup (aCons m1 aNil)) (bnd t1 fun a => some (.tup [a])) := ev_cast (ev_tup (ea_cons h1 ea_nil)) (by cases t1 <;> rfl)
theorem ev_tup2 {m1 m2 : EX} {t1 t2 : Option U} (h1 : EV A m1 t1) (h2 : EV A m2 t2) : EV A (eTup (aCons m1 (aCons m2 aNil))) (bnd t1 fun a => bnd t2 fun b => some (.tup [a, b])) := ev_cast (ev_tup (ea_cons h1 (ea_cons h2 ea_nil))) (by cases t1 <;> cases t2 <;> rfl)
theorem ev_tup3 {m1 m2 m3 : EX} {t1 t2 t3 : Option U} (h1 : EV A m1 t1) (h2 : EV A m2 t2) (h3 : EV A m3 t3) : EV A (eTup (aCons m1 (aCons m2 (aCons m3 aNil)))) (bnd t1 fun a => bnd t2 fun b => bnd t3 fun c => some (.tup [a, b, c])) := ev_cast (ev_tup (ea_cons h1 (ea_cons h2 (ea_cons h3 ea_nil)))) (by cases t1 <;> cases t2 <;> cases t3 <;> rfl)
theorem ev_tup4 {m1 m2 m3 m4 : EX} {t1 t2 t3 t4 : Option U} (h1 : EV A m1 t1) (h2 : EV A m2 t2) (h3 : EV A m3 t3) (h4 : EV A m4 t4) : EV A (eTup (aCons m1 (aCons m2 (aCons m3 (aCons m4 aNil))))) (bnd t1 fun a => bnd t2 fun b => bnd t3 fun c => bnd t4 fun d => some (.tup [a, b, c, d])) := ev_cast (ev_tup (ea_cons h1 (ea_cons h2 (ea_cons h3 (ea_cons h4 ea_nil))))) (by cases t1 <;> cases t2 <;> cases t3 <;> cases t4 <;> rfl)
theorem el_cast {t t' : Option (List U)} (h : EL A m t) (e : t' = t) : EL A m t' := e ▸ h
theorem el_nil : EL A (eLst aNil) (some []) := el_cast (el_lst ea_nil) rfl
theorem el_lst1 {m1 : EX} {t1 : Option U} (h1 : EV A m1 t1) : EL A (eLst (aCons m1 aNil)) (bnd t1 fun a => some [a]) := el_cast (el_lst (ea_cons h1 ea_nil)) (by cases t1 <;> rfl)
theorem el_lst2 {m1 m2 : EX} {t1 t2 : Option U} (h1 : EV A m1 t1) (h2 : EV A m2 t2) : EL A (eLst (aCons m1 (aCons m2 aNil))) (bnd t1 fun a => bnd t2 fun b => some [a, b]) := el_cast (el_lst (ea_cons h1 (ea_cons h2 ea_nil))) (by cases t1 <;> cases t2 <;> rfl)

/-! ### slices, ranges -/
theorem ov_none : OV A oNone (some none) := fun b e O r M st env E => by cases e; exact ⟨[], by simp [oNone]⟩
def asInt : U → Option (Option Int)
  | .int i => some (some i)
  | _ => none
theorem ov_some (h : EV A m t) : OV A (oSome m) (bnd t asInt) := by
  intro b e O r M st env E
  obtain ⟨a, e1, e⟩ := bnd_ok e
  obtain ⟨wa, g1, h1, q1⟩ := h a e1 O r M st env E
  cases a with
  | int i =>
    cases e
    cases q1
    refine ⟨g1, ?_⟩
    unfold oSome
    simp only [R.bind, h1]
  | _ => cases e
theorem ev_sl {lo hi : OX} {tl th : Option (Option Int)} (h : EB A m t) (hl : OV A lo tl) (hh : OV A hi th) : EV A (eSl m lo hi) (bnd t fun a => bnd tl fun x => bnd th fun y => slU x y a) := by
  intro u e O r M st env E
  obtain ⟨a, e1, e⟩ := bnd_ok e
  obtain ⟨x, e2, e⟩ := bnd_ok e
  obtain ⟨y, e3, e⟩ := bnd_ok e
  obtain ⟨wa, g1, h1, q1⟩ := h a e1 O r M st env E
  obtain ⟨g2, h2⟩ := hl x e2 O r M _ env (E.ext g1)
  obtain ⟨g3, h3⟩ := hh y e3 O r M _ env ((E.ext g1).ext g2)
  have := op_slU x y a u e (Zs O M) _ wa (((E.ext g1).ext g2).ext g3).bd ((q1.ext g2).ext g3)
  unfold eSl
  simp only [R.bind, h1, h2, h3]
  exact EmB.ans (EmB.ans (EmB.ans this))
theorem el_sl {lo hi : OX} {tl th : Option (Option Int)} (h : EB A m t) (hl : OV A lo tl) (hh : OV A hi th) : EL A (eSl m lo hi) (bnd t fun a => bnd tl fun x => bnd th fun y => slL x y a) := by
  intro u e O r M st env E
  obtain ⟨a, e1, e⟩ := bnd_ok e
  obtain ⟨x, e2, e⟩ := bnd_ok e
  obtain ⟨y, e3, e⟩ := bnd_ok e
  obtain ⟨wa, g1, h1, q1⟩ := h a e1 O r M st env E
  obtain ⟨g2, h2⟩ := hl x e2 O r M _ env (E.ext g1)
  obtain ⟨g3, h3⟩ := hh y e3 O r M _ env ((E.ext g1).ext g2)
  have := op_slL x y a u e (Zs O M) _ wa (((E.ext g1).ext g2).ext g3).bd ((q1.ext g2).ext g3)
  unfold eSl
  simp only [R.bind, h1, h2, h3]
  exact AnsL.ans (AnsL.ans (AnsL.ans this))
def inte : U → Option Int
  | .int i => some i
  | _ => none
/-- from one number below another one -/
def ranTo (i j : Int) : Option (List U) := cond (mid i) (cond (mid j) (some (rngU i (Int.sub j i).toNat)) none) none
theorem ranTo_ok {i j : Int} {us : List U} (h : ranTo i j = some us) : rgOkB i j = true ∧ us = rngU i (j - i).toNat ∧ rngOk i = true ∧ rngOk j = true := by
  obtain ⟨h1, h⟩ := cond_so h
  obtain ⟨h2, h⟩ := cond_so h
  cases h
  have a1 := mid_ok h1
  have a2 := mid_ok h2
  refine ⟨?_, rfl, mid_rng h1, mid_rng h2⟩
  unfold rgOkB
  rw [mid_rng h1, mid_rng h2]
  simp
  omega
theorem rgArgs1 {m : AX} {t : Option U} {m1 : EX} (h : EV A m1 t) {us : List U} (e : bnd t (fun a => bnd (inte a) fun j => ranTo 0 j) = some us) (E : EmA O r M st A env) : ∃ j g, aCons m1 aNil env st = .ok [.int j] (st ++ g) ∧ ranTo 0 j = some us := by
  obtain ⟨a, e1, e⟩ := bnd_ok e
  obtain ⟨j, e2, e⟩ := bnd_ok e
  obtain ⟨wa, g1, h1, q1⟩ := h a e1 O r M st env E
  cases a with
  | int i =>
    cases e2
    cases q1
    exact ⟨_, g1, by unfold aCons aNil; simp only [R.bind, h1], e⟩
  | _ => cases e2
theorem rgArgs2 {t t2 : Option U} {m1 m2 : EX} (h : EV A m1 t) (k : EV A m2 t2) {us : List U} {f : Int → Int → Option (List U)} (e : bnd t (fun a => bnd t2 fun b => bnd (inte a) fun i => bnd (inte b) fun j => f i j) = some us) (E : EmA O r M st A env) : ∃ i j g, aCons m1 (aCons m2 aNil) env st = .ok [.int i, .int j] (st ++ g) ∧ f i j = some us := by
  obtain ⟨a, e1, e⟩ := bnd_ok e
  obtain ⟨b, e2, e⟩ := bnd_ok e
  obtain ⟨i, e3, e⟩ := bnd_ok e
  obtain ⟨j, e4, e⟩ := bnd_ok e
  obtain ⟨wa, g1, h1, q1⟩ := h a e1 O r M st env E
  obtain ⟨wb, g2, h2, q2⟩ := k b e2 O r M _ env (E.ext g1)
  cases a with
  | int i =>
    cases e3
    cases b with
    | int j =>
      cases e4
      cases q1
      cases q2
      exact ⟨_, _, g1 ++ g2, by unfold aCons aNil; simp only [R.bind, h1, h2, List.append_assoc], e⟩
    | _ => cases e4
  | _ => cases e3
theorem ev_tupRg1 (h : EV A m t) : EV A (eTupRg (aCons m aNil)) (bnd (bnd t fun a => bnd (inte a) fun j => ranTo 0 j) fun us => some (.tup us)) := by
  intro u e O r M st env E
  obtain ⟨us, e1, e⟩ := bnd_ok e
  cases e
  obtain ⟨j, g, h1, h2⟩ := rgArgs1 (m := aNil) h e1 E
  obtain ⟨h3, rfl, _⟩ := ranTo_ok h2
  refine ⟨_, g, ?_, .tup (rng_em _ _)⟩
  unfold eTupRg
  simp only [R.bind, h1, rngArgs]
  rw [if_pos h3]
theorem el_lstRg1 (h : EV A m t) : EL A (eLstRg (aCons m aNil)) (bnd t fun a => bnd (inte a) fun j => ranTo 0 j) := by
  intro us e O r M st env E
  obtain ⟨j, g, h1, h2⟩ := rgArgs1 (m := aNil) h e E
  obtain ⟨h3, rfl, _⟩ := ranTo_ok h2
  refine AnsL.ans (g := g) (AnsL.new (E.ext g).bd ?_ (rng_em _ _))
  unfold eLstRg
  simp only [R.bind, h1, rngArgs]
  rw [if_pos h3]
theorem ev_tupRg2 (h : EV A ma ta) (k : EV A mb tb) : EV A (eTupRg (aCons ma (aCons mb aNil))) (bnd (bnd ta fun a => bnd tb fun b => bnd (inte a) fun i => bnd (inte b) fun j => ranTo i j) fun us => some (.tup us)) := by
  intro u e O r M st env E
  obtain ⟨us, e1, e⟩ := bnd_ok e
  cases e
  obtain ⟨i, j, g, h1, h2⟩ := rgArgs2 h k e1 E
  obtain ⟨h3, rfl, _⟩ := ranTo_ok h2
  refine ⟨_, g, ?_, .tup (rng_em _ _)⟩
  unfold eTupRg
  simp only [R.bind, h1, rngArgs]
  rw [if_pos h3]
theorem el_lstRg2 (h : EV A ma ta) (k : EV A mb tb) : EL A (eLstRg (aCons ma (aCons mb aNil))) (bnd ta fun a => bnd tb fun b => bnd (inte a) fun i => bnd (inte b) fun j => ranTo i j) := by
  intro us e O r M st env E
  obtain ⟨i, j, g, h1, h2⟩ := rgArgs2 h k e E
  obtain ⟨h3, rfl, _⟩ := ranTo_ok h2
  refine AnsL.ans (g := g) (AnsL.new (E.ext g).bd ?_ (rng_em _ _))
  unfold eLstRg
  simp only [R.bind, h1, rngArgs]
  rw [if_pos h3]
def ranDn (i j : Int) : Option (List U) := cond (mid i) (cond (mid j) (some (rngD i (Int.sub i j).toNat)) none) none
theorem ranDn_ok {i j : Int} {us : List U} (h : ranDn i j = some us) : us = rngD i (i - j).toNat ∧ rngOk i = true ∧ rngOk j = true ∧ (i - j).toNat ≤ 1000000 := by
  obtain ⟨h1, h⟩ := cond_so h
  obtain ⟨h2, h⟩ := cond_so h
  cases h
  have a1 := mid_ok h1
  have a2 := mid_ok h2
  exact ⟨rfl, mid_rng h1, mid_rng h2, by omega⟩
theorem dnArgs {t t2 : Option U} {m1 m2 m3 : EX} (h : EV A m1 t) (k : EV A m2 t2) (l : EV A m3 (some (.int (-1)))) {us : List U} (e : bnd t (fun a => bnd t2 fun b => bnd (inte a) fun i => bnd (inte b) fun j => ranDn i j) = some us) (E : EmA O r M st A env) : ∃ i j g, aCons m1 (aCons m2 (aCons m3 aNil)) env st = .ok [.int i, .int j, .int (-1)] (st ++ g) ∧ ranDn i j = some us := by
  obtain ⟨a, e1, e⟩ := bnd_ok e
  obtain ⟨b, e2, e⟩ := bnd_ok e
  obtain ⟨i, e3, e⟩ := bnd_ok e
  obtain ⟨j, e4, e⟩ := bnd_ok e
  obtain ⟨wa, g1, h1, q1⟩ := h a e1 O r M st env E
  obtain ⟨wb, g2, h2, q2⟩ := k b e2 O r M _ env (E.ext g1)
  obtain ⟨wc, g3, h3, q3⟩ := l _ rfl O r M _ env ((E.ext g1).ext g2)
  cases a with
  | int i =>
    cases e3
    cases b with
    | int j =>
      cases e4
      cases q1
      cases q2
      cases q3
      exact ⟨_, _, g1 ++ (g2 ++ g3), by unfold aCons aNil; simp only [R.bind, h1, h2, h3]; simp only [List.append_assoc], e⟩
    | _ => cases e4
  | _ => cases e3
theorem ev_tupRg3 (h : EV A ma ta) (k : EV A mb tb) (l : EV A mc (some (.int (-1)))) : EV A (eTupRg3 (aCons ma (aCons mb (aCons mc aNil)))) (bnd (bnd ta fun a => bnd tb fun b => bnd (inte a) fun i => bnd (inte b) fun j => ranDn i j) fun us => some (.tup us)) := by
  intro u e O r M st env E
  obtain ⟨us, e1, e⟩ := bnd_ok e
  cases e
  obtain ⟨i, j, g, h1, h2⟩ := dnArgs h k l e1 E
  obtain ⟨rfl, h3⟩ := ranDn_ok h2
  refine ⟨_, g, ?_, .tup (rngD_em _ _)⟩
  unfold eTupRg3
  simp only [R.bind, h1]
  rw [if_pos h3]
theorem el_lstRg3 (h : EV A ma ta) (k : EV A mb tb) (l : EV A mc (some (.int (-1)))) : EL A (eLstRg3 (aCons ma (aCons mb (aCons mc aNil)))) (bnd ta fun a => bnd tb fun b => bnd (inte a) fun i => bnd (inte b) fun j => ranDn i j) := by
  intro us e O r M st env E
  obtain ⟨i, j, g, h1, h2⟩ := dnArgs h k l e E
  obtain ⟨rfl, h3⟩ := ranDn_ok h2
  refine AnsL.ans (g := g) (AnsL.new (E.ext g).bd ?_ (rngD_em _ _))
  unfold eLstRg3
  simp only [R.bind, h1]
  rw [if_pos h3]

/-! ### what is walked -/
def enumU : Int → List U → List U
  | _, [] => []
  | i, x :: xs => .tup [.int i, x] :: enumU (Int.add i 1) xs
theorem enumU_get : ∀ (xs : List U) (i : Int) (j : Nat), (enumU i xs)[j]? = (xs[j]?).map fun x => .tup [.int (i + j), x]
  | [], _, _ => by simp [enumU]
  | x :: xs, i, 0 => by simp [enumU]
  | x :: xs, i, j + 1 => by
    simp only [enumU, List.getElem?_cons_succ]
    rw [enumU_get xs _ j]
    have : Int.add i 1 + (j : Int) = i + ((j + 1 : Nat) : Int) := by
      show i + 1 + (j : Int) = _
      omega
    rw [this]
theorem enum_em {Z : Nat → Prop} : ∀ {us : List U} {ws : List W}, Ems Z st us ws → ∀ i : Nat, Ems Z st (enumU i us) (enumW i ws)
  | _, _, .nil, _ => .nil
  | _, _, .cons h r, i => .cons (.tup (.cons (.int _) (.cons h .nil))) (enum_em r (i + 1))
def zipU : List U → List U → List U
  | x :: xs, v => match v with
    | y :: ys => .tup [x, y] :: zipU xs ys
    | [] => []
  | [], _ => []
theorem zipU_get : ∀ (xs ys : List U) (i : Nat), (zipU xs ys)[i]? = match xs[i]?, ys[i]? with
    | some x, some y => some (.tup [x, y])
    | _, _ => none
  | [], _, _ => by simp [zipU]
  | x :: xs, [], i => by
    simp only [zipU, List.getElem?_nil]
    split
    · rename_i h; cases h
    · rfl
  | x :: xs, y :: ys, 0 => by simp [zipU]
  | x :: xs, y :: ys, i + 1 => by
    simp only [zipU, List.getElem?_cons_succ]
    exact zipU_get xs ys i
theorem zip_em {Z : Nat → Prop} : ∀ {us vs : List U} {ws xs : List W}, Ems Z st us ws → Ems Z st vs xs → Ems Z st (zipU us vs) (zipW ws xs)
  | _, _, _, _, .nil, h => by cases h <;> exact .nil
  | _, _, _, _, .cons h r, .nil => .nil
  | _, _, _, _, .cons h r, .cons k q => .cons (.tup (.cons h (.cons k .nil))) (zip_em r q)
theorem zipU_len : ∀ xs ys : List U, (zipU xs ys).length ≤ xs.length
  | [], _ => Nat.le_refl _
  | x :: xs, [] => Nat.zero_le _
  | x :: xs, y :: ys => Nat.succ_le_succ (zipU_len xs ys)
theorem enumU_len : ∀ (xs : List U) (i : Int), (enumU i xs).length = xs.length
  | [], _ => rfl
  | x :: xs, i => by simp [enumU, enumU_len xs]
/-- what is walked; b: none of its lists is in Z -/
inductive SrcE (b : Bool) (Z : Nat → Prop) (st : Sto) : Src → List U → Prop
  | fix {us : List U} {ws : List W} : Ems Z st us ws → SrcE b Z st (.fix ws) us
  | lv {n : Nat} {us : List U} {ws : List W} : (b = true → ¬ Z n) → st[n]? = some (.lst ws) → Ems Z st us ws → SrcE b Z st (.lv n) us
  | en {n : Nat} {us : List U} {ws : List W} : (b = true → ¬ Z n) → st[n]? = some (.lst ws) → Ems Z st us ws → SrcE b Z st (.en n) (enumU 0 us)
  | zp {n m : Nat} {us vs : List U} {ws xs : List W} : (b = true → ¬ Z n) → (b = true → ¬ Z m) → st[n]? = some (.lst ws) → st[m]? = some (.lst xs) → Ems Z st us ws → Ems Z st vs xs → SrcE b Z st (.zp n m) (zipU us vs)
theorem SrcE.ext {b : Bool} {Z : Nat → Prop} {src : Src} {us : List U} (g : Sto) (h : SrcE b Z st src us) : SrcE b Z (st ++ g) src us := by
  cases h with
  | fix h => exact .fix (h.ext g)
  | lv h1 h2 h3 => exact .lv h1 ((ext_get (lt_of_get h2)).trans h2) (h3.ext g)
  | en h1 h2 h3 => exact .en h1 ((ext_get (lt_of_get h2)).trans h2) (h3.ext g)
  | zp h1 k1 h2 k2 h3 k3 => exact .zp h1 k1 ((ext_get (lt_of_get h2)).trans h2) ((ext_get (lt_of_get k2)).trans k2) (h3.ext g) (k3.ext g)
theorem SrcE.step {Z Z' : Nat → Prop} {st' : Sto} {src : Src} {us : List U} (hz : ∀ n, n < st.length → Z' n → Z n) (hs : ∀ n, n < st.length → ¬ Z n → st'[n]? = st[n]?) (h : SrcE true Z st src us) : SrcE true Z' st' src us := by
  cases h with
  | fix h => exact .fix (h.step hz hs)
  | lv h1 h2 h3 =>
    have hn := lt_of_get h2
    exact .lv (fun _ z => h1 rfl (hz _ hn z)) ((hs _ hn (h1 rfl)).trans h2) (h3.step hz hs)
  | en h1 h2 h3 =>
    have hn := lt_of_get h2
    exact .en (fun _ z => h1 rfl (hz _ hn z)) ((hs _ hn (h1 rfl)).trans h2) (h3.step hz hs)
  | zp h1 k1 h2 k2 h3 k3 =>
    have hn := lt_of_get h2
    have hm := lt_of_get k2
    exact .zp (fun _ z => h1 rfl (hz _ hn z)) (fun _ z => k1 rfl (hz _ hm z)) ((hs _ hn (h1 rfl)).trans h2) ((hs _ hm (k1 rfl)).trans k2) (h3.step hz hs) (k3.step hz hs)
theorem Ems.none {Z : Nat → Prop} {us : List U} {ws : List W} {i : Nat} (h : Ems Z st us ws) (e : us[i]? = Option.none) : ws[i]? = Option.none := by
  rw [List.getElem?_eq_none_iff] at e ⊢
  rw [← h.length]; exact e
theorem SrcE.at_ {b : Bool} {Z : Nat → Prop} {src : Src} {us : List U} (h : SrcE b Z st src us) {k : Nat} {u : U} (e : us[k]? = some u) : ∃ w, src.at k st = some w ∧ Em Z st u w := by
  cases h with
  | fix h => exact h.get e
  | lv h1 h2 h3 =>
    obtain ⟨w, q1, q2⟩ := h3.get e
    exact ⟨w, by simp only [Src.at, lsAt, h2]; exact q1, q2⟩
  | en h1 h2 h3 =>
    rename_i n xs ws
    rw [enumU_get] at e
    cases q : xs[k]? with
    | none => rw [q] at e; cases e
    | some x =>
      rw [q] at e
      cases e
      obtain ⟨w, q1, q2⟩ := h3.get q
      refine ⟨.tup [.int k, w], by simp only [Src.at, lsAt, h2, q1], ?_⟩
      rw [Int.zero_add]
      exact .tup (.cons (.int _) (.cons q2 .nil))
  | zp h1 k1 h2 k2 h3 k3 =>
    rename_i n m xs ys ws zs
    rw [zipU_get] at e
    cases q : xs[k]? with
    | none => rw [q] at e; cases e
    | some x =>
      cases q' : ys[k]? with
      | none => rw [q, q'] at e; cases e
      | some y =>
        rw [q, q'] at e
        cases e
        obtain ⟨w, q1, q2⟩ := h3.get q
        obtain ⟨v, p1, p2⟩ := k3.get q'
        exact ⟨.tup [w, v], by simp only [Src.at, lsAt, h2, k2, q1, p1], .tup (.cons q2 (.cons p2 .nil))⟩
theorem SrcE.end_ {b : Bool} {Z : Nat → Prop} {src : Src} {us : List U} (h : SrcE b Z st src us) {k : Nat} (e : us[k]? = none) : src.at k st = none := by
  cases h with
  | fix h => exact h.none e
  | lv h1 h2 h3 =>
    simp only [Src.at, lsAt, h2]
    exact h3.none e
  | en h1 h2 h3 =>
    rename_i n xs ws
    rw [enumU_get] at e
    cases q : xs[k]? with
    | none => simp only [Src.at, lsAt, h2, h3.none q]
    | some x => rw [q] at e; cases e
  | zp h1 k1 h2 k2 h3 k3 =>
    rename_i n m xs ys ws zs
    rw [zipU_get] at e
    cases q : xs[k]? with
    | none => simp only [Src.at, lsAt, h2, k2, h3.none q]
    | some x =>
      cases q' : ys[k]? with
      | none =>
        simp only [Src.at, lsAt, h2, k2, k3.none q']
        cases ws[k]? <;> rfl
      | some y => rw [q, q'] at e; cases e
theorem SrcE.bound {b : Bool} {Z : Nat → Prop} {src : Src} {us : List U} (h : SrcE b Z st src us) : us.length + 1 ≤ src.bound st := by
  cases h with
  | fix h => simp only [Src.bound]; rw [h.length]; exact Nat.le_refl _
  | lv h1 h2 h3 => simp only [Src.bound, h2]; rw [h3.length]; exact Nat.le_refl _
  | en h1 h2 h3 => simp only [Src.bound, h2]; rw [enumU_len, h3.length]; exact Nat.le_refl _
  | zp h1 k1 h2 k2 h3 k3 =>
    simp only [Src.bound, h2]
    rw [← h3.length]
    exact Nat.succ_le_succ (zipU_len _ _)
def IV (b : Bool) (A : List AV) (m : IX) (t : Option (List U)) : Prop := ∀ us, t = some us → ∀ O r M st env, EmA O r M st A env → ∃ src g, m env st = .ok src (st ++ g) ∧ SrcE b (Zs O M) (st ++ g) src us
theorem IV.b {m : IX} {t : Option (List U)} (h : IV true A m t) : IV false A m t := by
  intro us e O r M st env E
  obtain ⟨src, g, h1, h2⟩ := h us e O r M st env E
  refine ⟨src, g, h1, ?_⟩
  cases h2 with
  | fix h => exact .fix h
  | lv h1 h2 h3 => exact .lv (fun h => by cases h) h2 h3
  | en h1 h2 h3 => exact .en (fun h => by cases h) h2 h3
  | zp h1 k1 h2 k2 h3 k3 => exact .zp (fun h => by cases h) (fun h => by cases h) h2 k2 h3 k3
/-- a list that is no one's own -/
theorem em_lst' {Z : Nat → Prop} {us : List U} {w : W} (h : Em Z st (.lst us) w) : ∃ n ws, w = .ls n ∧ ¬ Z n ∧ st[n]? = some (.lst ws) ∧ Ems Z st us ws := by
  cases h with
  | lst h e r => exact ⟨_, _, rfl, h, e, r⟩
theorem iv_of (h : EV A m t) : IV true A (iOf m) (bnd t seqU) := by
  intro us e O r M st env E
  obtain ⟨a, e1, e⟩ := bnd_ok e
  obtain ⟨wa, g1, h1, q1⟩ := h a e1 O r M st env E
  unfold iOf
  simp only [R.bind, h1]
  cases a with
  | tup xs =>
    cases e
    obtain ⟨ws, rfl, r1⟩ := emb_tup q1.b
    exact ⟨_, g1, rfl, .fix r1⟩
  | lst xs =>
    cases e
    obtain ⟨n, ws, rfl, z, e2, r1⟩ := em_lst' q1
    exact ⟨_, g1, rfl, .lv (fun _ => z) e2 r1⟩
  | frz ns =>
    cases e
    have := emb_frz q1.b; subst this
    exact ⟨_, g1, rfl, .fix (.ints ns)⟩
  | _ => cases e
theorem iv_ofB (h : EB A m t) : IV false A (iOf m) (bnd t seqU) := by
  intro us e O r M st env E
  obtain ⟨a, e1, e⟩ := bnd_ok e
  obtain ⟨wa, g1, h1, q1⟩ := h a e1 O r M st env E
  unfold iOf
  simp only [R.bind, h1]
  cases a with
  | tup xs =>
    cases e
    obtain ⟨ws, rfl, r1⟩ := emb_tup q1
    exact ⟨_, g1, rfl, .fix r1⟩
  | lst xs =>
    cases e
    obtain ⟨n, ws, rfl, e2, r1⟩ := emb_lst q1
    exact ⟨_, g1, rfl, .lv (fun h => by cases h) e2 r1⟩
  | frz ns =>
    cases e
    have := emb_frz q1; subst this
    exact ⟨_, g1, rfl, .fix (.ints ns)⟩
  | _ => cases e
def enumSeq (u : U) : Option (List U) := bnd (seqU u) fun us => some (enumU 0 us)
theorem iv_en (h : EV A m t) : IV true A (iEnum m) (bnd t enumSeq) := by
  intro us e O r M st env E
  obtain ⟨a, e1, e⟩ := bnd_ok e
  obtain ⟨vs, e2, e⟩ := bnd_ok e
  cases e
  obtain ⟨wa, g1, h1, q1⟩ := h a e1 O r M st env E
  unfold iEnum
  simp only [R.bind, h1]
  cases a with
  | tup xs =>
    cases e2
    obtain ⟨ws, rfl, r1⟩ := emb_tup q1.b
    exact ⟨_, g1, rfl, .fix (enum_em r1 0)⟩
  | lst xs =>
    cases e2
    obtain ⟨n, ws, rfl, z, e2, r1⟩ := em_lst' q1
    exact ⟨_, g1, rfl, .en (fun _ => z) e2 r1⟩
  | frz ns =>
    cases e2
    have := emb_frz q1.b; subst this
    exact ⟨_, g1, rfl, .fix (enum_em (.ints ns) 0)⟩
  | _ => cases e2
theorem iv_enB (h : EB A m t) : IV false A (iEnum m) (bnd t enumSeq) := by
  intro us e O r M st env E
  obtain ⟨a, e1, e⟩ := bnd_ok e
  obtain ⟨vs, e2, e⟩ := bnd_ok e
  cases e
  obtain ⟨wa, g1, h1, q1⟩ := h a e1 O r M st env E
  unfold iEnum
  simp only [R.bind, h1]
  cases a with
  | tup xs =>
    cases e2
    obtain ⟨ws, rfl, r1⟩ := emb_tup q1
    exact ⟨_, g1, rfl, .fix (enum_em r1 0)⟩
  | lst xs =>
    cases e2
    obtain ⟨n, ws, rfl, e2, r1⟩ := emb_lst q1
    exact ⟨_, g1, rfl, .en (fun h => by cases h) e2 r1⟩
  | frz ns =>
    cases e2
    have := emb_frz q1; subst this
    exact ⟨_, g1, rfl, .fix (enum_em (.ints ns) 0)⟩
  | _ => cases e2
def zipSeq : U → U → Option (List U)
  | .tup xs, v => match v with
    | .tup ys => some (zipU xs ys)
    | _ => none
  | .lst xs, v => match v with
    | .lst ys => some (zipU xs ys)
    | _ => none
  | _, _ => none
theorem iv_zp (h : EV A ma ta) (k : EV A mb tb) : IV true A (iZip ma mb) (bnd ta fun a => bnd tb fun b => zipSeq a b) := by
  intro us e O r M st env E
  obtain ⟨a, e1, e⟩ := bnd_ok e
  obtain ⟨b, e2, e⟩ := bnd_ok e
  obtain ⟨wa, g1, h1, q1⟩ := h a e1 O r M st env E
  obtain ⟨wb, g2, h2, q2⟩ := k b e2 O r M _ env (E.ext g1)
  unfold iZip
  simp only [R.bind, h1, h2]
  cases a with
  | tup xs =>
    cases b with
    | tup ys =>
      cases e
      obtain ⟨ws, rfl, r1⟩ := emb_tup (q1.ext g2).b
      obtain ⟨zs, rfl, r2⟩ := emb_tup q2.b
      exact ⟨_, g1 ++ g2, by rw [← List.append_assoc], by rw [← List.append_assoc]; exact .fix (zip_em r1 r2)⟩
    | _ => cases e
  | lst xs =>
    cases b with
    | lst ys =>
      cases e
      obtain ⟨n, ws, rfl, z, e2, r1⟩ := em_lst' (q1.ext g2)
      obtain ⟨m, zs, rfl, z2, e3, r2⟩ := em_lst' q2
      exact ⟨_, g1 ++ g2, by rw [← List.append_assoc], by rw [← List.append_assoc]; exact .zp (fun _ => z) (fun _ => z2) e2 e3 r1 r2⟩
    | _ => cases e
  | _ => cases e
theorem iv_zpB (h : EB A ma ta) (k : EB A mb tb) : IV false A (iZip ma mb) (bnd ta fun a => bnd tb fun b => zipSeq a b) := by
  intro us e O r M st env E
  obtain ⟨a, e1, e⟩ := bnd_ok e
  obtain ⟨b, e2, e⟩ := bnd_ok e
  obtain ⟨wa, g1, h1, q1⟩ := h a e1 O r M st env E
  obtain ⟨wb, g2, h2, q2⟩ := k b e2 O r M _ env (E.ext g1)
  unfold iZip
  simp only [R.bind, h1, h2]
  cases a with
  | tup xs =>
    cases b with
    | tup ys =>
      cases e
      obtain ⟨ws, rfl, r1⟩ := emb_tup (q1.ext g2)
      obtain ⟨zs, rfl, r2⟩ := emb_tup q2
      exact ⟨_, g1 ++ g2, by rw [← List.append_assoc], by rw [← List.append_assoc]; exact .fix (zip_em r1 r2)⟩
    | _ => cases e
  | lst xs =>
    cases b with
    | lst ys =>
      cases e
      obtain ⟨n, ws, rfl, e2, r1⟩ := emb_lst (q1.ext g2)
      obtain ⟨m, zs, rfl, e3, r2⟩ := emb_lst q2
      exact ⟨_, g1 ++ g2, by rw [← List.append_assoc], by rw [← List.append_assoc]; exact .zp (fun h => by cases h) (fun h => by cases h) e2 e3 r1 r2⟩
    | _ => cases e
  | _ => cases e
theorem iv_rng1 (h : EV A m t) : IV true A (iRange (aCons m aNil)) (bnd t fun a => bnd (inte a) fun j => ranTo 0 j) := by
  intro us e O r M st env E
  obtain ⟨j, g, h1, h2⟩ := rgArgs1 (m := aNil) h e E
  obtain ⟨_, rfl, _, h3⟩ := ranTo_ok h2
  refine ⟨.fix (rngW 0 1 j.toNat), g, ?_, ?_⟩
  · unfold iRange
    simp only [R.bind, h1]
    rw [if_pos h3]
  · rw [Int.sub_zero]
    exact .fix (rng_em _ _)
theorem iv_rng2 (h : EV A ma ta) (k : EV A mb tb) : IV true A (iRange (aCons ma (aCons mb aNil))) (bnd ta fun a => bnd tb fun b => bnd (inte a) fun i => bnd (inte b) fun j => ranTo i j) := by
  intro us e O r M st env E
  obtain ⟨i, j, g, h1, h2⟩ := rgArgs2 h k e E
  obtain ⟨_, rfl, h3⟩ := ranTo_ok h2
  refine ⟨.fix (rngW i 1 (j - i).toNat), g, ?_, .fix (rng_em _ _)⟩
  unfold iRange
  simp only [R.bind, h1]
  rw [if_pos h3]
def ranBy (i j c : Int) : Option (List U) := if c ≠ 0 ∧ c.natAbs < 1073741824 ∧ Builtin.Range.small i j c = true ∧ 0 ≤ Builtin.Range.rangeSize i j c then some (rngS c i (Builtin.Range.rangeSize i j c).toNat) else none
theorem iv_rngC (h : EV A ma ta) (k : EV A mb tb) (l : EV A mc tc) : IV true A (iRangeC (aCons ma (aCons mb (aCons mc aNil)))) (bnd ta fun a => bnd tb fun b => bnd tc fun c => bnd (inte a) fun i => bnd (inte b) fun j => bnd (inte c) fun k => ranBy i j k) := by
  intro us e O r M st env E
  obtain ⟨a, e1, e⟩ := bnd_ok e
  obtain ⟨b, e2, e⟩ := bnd_ok e
  obtain ⟨c, e3, e⟩ := bnd_ok e
  obtain ⟨i, e4, e⟩ := bnd_ok e
  obtain ⟨j, e5, e⟩ := bnd_ok e
  obtain ⟨q, e6, ef⟩ := bnd_ok e
  obtain ⟨wa, g1, h1, q1⟩ := h a e1 O r M st env E
  obtain ⟨wb, g2, h2, q2⟩ := k b e2 O r M _ env (E.ext g1)
  obtain ⟨wc, g3, h3, q3⟩ := l c e3 O r M _ env ((E.ext g1).ext g2)
  cases a with
  | int i =>
    cases b with
    | int j =>
      cases c with
      | int c =>
        cases e4
        cases e5
        cases e6
        cases q1
        cases q2
        cases q3
        unfold ranBy at ef
        split at ef
        · rename_i hc
          cases ef
          refine ⟨_, g1 ++ (g2 ++ g3), ?_, .fix (rngS_em _ _ _)⟩
          unfold iRangeC
          simp only [aCons, aNil, R.bind, h1, h2, h3]
          simp only [List.append_assoc]
          rw [if_pos hc]
        · cases ef
      | _ => cases e6
    | _ => cases e5
  | _ => cases e4
/-- columns of rows as long -/
def rowsU : List U → Option (List (List U))
  | [] => some []
  | u :: us => match u with
    | .tup r => bnd (rowsU us) fun q => some (r :: q)
    | _ => none
def colU : List (List U) → Nat → List U
  | [], _ => []
  | r :: rs, i => r.getD i .non :: colU rs i
def colsU (rs : List (List U)) : Nat → Nat → List U
  | _, 0 => []
  | i, n + 1 => .tup (colU rs i) :: colsU rs (i + 1) n
def colsOf (us : List U) : Option (List U) := bnd (rowsU us) fun q => match q with
  | [] => none
  | r :: rs => cond (Nat.ble rs.length 11) (cond (allP (fun x => Nat.beq x.length r.length) rs) (some (colsU (r :: rs) 0 r.length)) none) none
inductive EmR (Z : Nat → Prop) (st : Sto) : List (List U) → List (List W) → Prop
  | nil : EmR Z st [] []
  | cons {r : List U} {q : List W} {rs : List (List U)} {qs : List (List W)} : Ems Z st r q → EmR Z st rs qs → EmR Z st (r :: rs) (q :: qs)
theorem rows_em {Z : Nat → Prop} : ∀ {us : List U} {ws : List W} {rs : List (List U)}, Ems Z st us ws → rowsU us = some rs → ∃ qs, rowsW ws = some qs ∧ EmR Z st rs qs
  | _, _, _, .nil, e => by cases e; exact ⟨[], rfl, .nil⟩
  | u :: us, w :: ws, rs, .cons h r, e => by
    cases u with
    | tup x =>
      obtain ⟨q, e1, e⟩ := bnd_ok e
      cases e
      cases h with
      | tup h =>
        obtain ⟨qs, h1, h2⟩ := rows_em r e1
        exact ⟨_ :: qs, by simp only [rowsW, h1], .cons h h2⟩
    | _ => cases e
theorem Ems.getD {Z : Nat → Prop} {us : List U} {ws : List W} (h : Ems Z st us ws) (i : Nat) : Em Z st (us.getD i .non) (ws.getD i .non) := by
  rw [List.getD_eq_getElem?_getD, List.getD_eq_getElem?_getD]
  cases e : us[i]? with
  | none => rw [h.none e]; exact .non
  | some u =>
    obtain ⟨w, h1, h2⟩ := h.get e
    rw [h1]
    exact h2
theorem col_em {Z : Nat → Prop} {i : Nat} : ∀ {rs : List (List U)} {qs : List (List W)}, EmR Z st rs qs → Ems Z st (colU rs i) (colAt qs i)
  | _, _, .nil => .nil
  | _, _, .cons h r => .cons (h.getD i) (col_em r)
theorem cols_em {Z : Nat → Prop} {rs : List (List U)} {qs : List (List W)} (h : EmR Z st rs qs) : ∀ n i, Ems Z st (colsU rs i n) (colsFrom qs i n)
  | 0, _ => .nil
  | n + 1, i => .cons (.tup (col_em h)) (cols_em h n (i + 1))
theorem EmR.len {Z : Nat → Prop} : ∀ {rs : List (List U)} {qs : List (List W)}, EmR Z st rs qs → rs.length = qs.length
  | _, _, .nil => rfl
  | _, _, .cons _ r => by simp [EmR.len r]
theorem EmR.all {Z : Nat → Prop} {n : Nat} : ∀ {rs : List (List U)} {qs : List (List W)}, EmR Z st rs qs → allP (fun x => Nat.beq x.length n) rs = true → (qs.all fun q => q.length == n) = true
  | _, _, .nil, _ => rfl
  | _, _, .cons h r, e => by
    obtain ⟨h1, h2⟩ := cond_tt e
    rw [List.all_cons, EmR.all r h2, ← h.length]
    have := Nat.eq_of_beq_eq_true h1
    simp [this]
theorem zipSrc_em {Z : Nat → Prop} {us vs : List U} {ws : List W} (h : Ems Z st us ws) (e : colsOf us = some vs) : ∃ src, zipSrc ws = some src ∧ SrcE true Z st src vs := by
  obtain ⟨q, e1, e⟩ := bnd_ok e
  obtain ⟨qs, h1, h2⟩ := rows_em h e1
  cases h2 with
  | nil => cases e
  | cons a b =>
    rename_i r q rs qs
    simp only [] at e
    obtain ⟨c1, e⟩ := cond_so e
    obtain ⟨c2, e⟩ := cond_so e
    cases e
    refine ⟨_, ?_, .fix (cols_em (.cons a b) _ _)⟩
    unfold zipSrc
    rw [h1]
    simp only []
    rw [if_pos]
    · rw [a.length]
    · have := Nat.le_of_ble_eq_true c1
      rw [← b.len, ← a.length]
      exact ⟨this, b.all c2⟩
theorem iv_zipS (h : EV A m t) : IV true A (iZipS m) (bnd t fun a => match a with
    | .tup us => colsOf us
    | _ => none) := by
  intro us e O r M st env E
  obtain ⟨a, e1, e⟩ := bnd_ok e
  obtain ⟨wa, g1, h1, q1⟩ := h a e1 O r M st env E
  cases a with
  | tup vs =>
    obtain ⟨ws, rfl, r1⟩ := emb_tup q1.b
    obtain ⟨src, k1, k2⟩ := zipSrc_em r1 e
    refine ⟨src, g1, ?_, k2⟩
    unfold iZipS
    simp only [R.bind, h1, k1]
  | _ => cases e
theorem iv_zipM {m : AX} {t : Option (List U)} (h : EA A m t) : IV true A (iZipM m) (bnd t colsOf) := by
  intro us e O r M st env E
  obtain ⟨a, e1, e⟩ := bnd_ok e
  obtain ⟨ws, g1, h1, q1⟩ := h a e1 O r M st env E
  obtain ⟨src, k1, k2⟩ := zipSrc_em q1 e
  refine ⟨src, g1, ?_, k2⟩
  unfold iZipM
  simp only [R.bind, h1, k1]

/-! ### patterns -/
/-- the pattern gets a value -/
def PV {S : Type} (p : Pat) (A : List AV) (x : U) (t : Option S) (F : S → List AV) : Prop := ∀ s, t = some s → ∀ O r M st env w, EmA O r M st A env → Em (Zs O M) st x w → ∃ env', p.set w st env = some env' ∧ EmA O r M st (F s) env'
def noRefAt (A : List AV) (i : Nat) : Bool := match A[i]? with
  | some (.own true _) => false
  | _ => true
theorem noRefAt_ok {i : Nat} (h : noRefAt A i = true) : ∀ us, A[i]? ≠ some (.own true us) := by
  intro us e
  unfold noRefAt at h
  rw [e] at h
  cases h
theorem pv_nm {i : Nat} {x : U} (h : noRefAt A i = true := by rfl) : PV (.nm i) A x (some ()) fun _ => A.set i (.val x) := by
  intro s e O r M st env w E hx
  exact ⟨_, rfl, E.set hx i (noRefAt_ok h)⟩
def un2 (x : U) : Option (U × U) := bnd (seqU x) fun us => match us with
  | a :: r => match r with
    | b :: r => match r with
      | [] => some (a, b)
      | _ => none
    | _ => none
  | _ => none
def un3 (x : U) : Option (U × U × U) := bnd (seqU x) fun us => match us with
  | a :: r => match r with
    | b :: r => match r with
      | c :: r => match r with
        | [] => some (a, b, c)
        | _ => none
      | _ => none
    | _ => none
  | _ => none
def un4 (x : U) : Option (U × U × U × U) := bnd (seqU x) fun us => match us with
  | a :: r => match r with
    | b :: r => match r with
      | c :: r => match r with
        | d :: r => match r with
          | [] => some (a, b, c, d)
          | _ => none
        | _ => none
      | _ => none
    | _ => none
  | _ => none
theorem un2_ok {x : U} {p : U × U} (h : un2 x = some p) : seqU x = some [p.1, p.2] := by
  obtain ⟨us, e, h⟩ := bnd_ok h
  match us, e, h with
  | [a, b], e, h => cases h; exact e
theorem un3_ok {x : U} {p : U × U × U} (h : un3 x = some p) : seqU x = some [p.1, p.2.1, p.2.2] := by
  obtain ⟨us, e, h⟩ := bnd_ok h
  match us, e, h with
  | [a, b, c], e, h => cases h; exact e
theorem un4_ok {x : U} {p : U × U × U × U} (h : un4 x = some p) : seqU x = some [p.1, p.2.1, p.2.2.1, p.2.2.2] := by
  obtain ⟨us, e, h⟩ := bnd_ok h
  match us, e, h with
  | [a, b, c, d], e, h => cases h; exact e
theorem noRef_set {i j : Nat} {u : U} (h : ∀ us, A[j]? ≠ some (.own true us)) : ∀ us, (A.set i (.val u))[j]? ≠ some (.own true us) := by
  intro us z
  by_cases hij : i = j
  · subst hij
    by_cases hl : i < A.length
    · rw [List.getElem?_set_self hl] at z; cases z
    · rw [List.getElem?_eq_none (by simpa using hl)] at z; cases z
  · rw [List.getElem?_set_ne hij] at z
    exact h us z
theorem pv_tp2 {i j : Nat} {x : U} (h : noRefAt A i = true := by rfl) (h2 : noRefAt A j = true := by rfl) : PV (.tp [i, j]) A x (un2 x) fun s => (A.set i (.val s.1)).set j (.val s.2) := by
  intro s e O r M st env w E hx
  obtain ⟨ws, e1, q⟩ := seq_em hx.b (un2_ok e)
  cases q with
  | cons a q =>
    cases q with
    | cons b q =>
      cases q
      exact ⟨_, by simp only [Pat.set, e1, setAll], (E.set a i (noRefAt_ok h)).set b j (noRef_set (noRefAt_ok h2))⟩
theorem pv_tp3 {i j k : Nat} {x : U} (h : noRefAt A i = true := by rfl) (h2 : noRefAt A j = true := by rfl) (h3 : noRefAt A k = true := by rfl) : PV (.tp [i, j, k]) A x (un3 x) fun s => ((A.set i (.val s.1)).set j (.val s.2.1)).set k (.val s.2.2) := by
  intro s e O r M st env w E hx
  obtain ⟨ws, e1, q⟩ := seq_em hx.b (un3_ok e)
  cases q with
  | cons a q =>
    cases q with
    | cons b q =>
      cases q with
      | cons c q =>
        cases q
        exact ⟨_, by simp only [Pat.set, e1, setAll], ((E.set a i (noRefAt_ok h)).set b j (noRef_set (noRefAt_ok h2))).set c k (noRef_set (noRef_set (noRefAt_ok h3)))⟩
theorem pv_tp4 {i j k l : Nat} {x : U} (h : noRefAt A i = true := by rfl) (h2 : noRefAt A j = true := by rfl) (h3 : noRefAt A k = true := by rfl) (h4 : noRefAt A l = true := by rfl) : PV (.tp [i, j, k, l]) A x (un4 x) fun s => (((A.set i (.val s.1)).set j (.val s.2.1)).set k (.val s.2.2.1)).set l (.val s.2.2.2) := by
  intro s e O r M st env w E hx
  obtain ⟨ws, e1, q⟩ := seq_em hx.b (un4_ok e)
  cases q with
  | cons a q =>
    cases q with
    | cons b q =>
      cases q with
      | cons c q =>
        cases q with
        | cons d q =>
          cases q
          exact ⟨_, by simp only [Pat.set, e1, setAll], (((E.set a i (noRefAt_ok h)).set b j (noRef_set (noRefAt_ok h2))).set c k (noRef_set (noRef_set (noRefAt_ok h3)))).set d l (noRef_set (noRef_set (noRef_set (noRefAt_ok h4))))⟩

/-! ### comprehensions -/
def wipeA (A : List AV) : List Nat → List AV
  | [] => A
  | v :: vs => (wipeA A vs).set v .no
theorem EmA.wipe1 (E : EmA O r M st A env) (v : Nat) (h : ∀ us, A[v]? ≠ some (.own true us)) : EmA O r M st (A.set v .no) (env.set v none) where
  len := by simp [E.len]
  bO := E.bO
  bM := E.bM
  rO := E.rO
  hr := fun n e => by
    obtain ⟨j, us, hj⟩ := E.hr n e
    refine ⟨j, us, ?_⟩
    rw [List.getElem?_set_ne]
    · exact hj
    · rintro rfl; exact h us hj
  at_ := fun j a e => by
    by_cases hj : v = j
    · subst hj
      by_cases hi : v < A.length
      · rw [List.getElem?_set_self hi] at e
        cases e
        trivial
      · rw [List.getElem?_eq_none (by simpa using hi)] at e; cases e
    · rw [List.getElem?_set_ne hj] at e
      rw [List.getElem?_set_ne hj]
      exact E.at_ j a e
  inj := fun j k b us c vs n h1 h2 h3 h4 => by
    have ne : ∀ {l : Nat} {b : Bool} {us : List U}, (A.set v .no)[l]? = some (.own b us) → v ≠ l ∧ A[l]? = some (.own b us) := by
      intro l b us q
      by_cases hl : v = l
      · subst hl
        by_cases hi : v < A.length
        · rw [List.getElem?_set_self hi] at q; cases q
        · rw [List.getElem?_eq_none (by simpa using hi)] at q; cases q
      · rw [List.getElem?_set_ne hl] at q; exact ⟨hl, q⟩
    obtain ⟨n1, q1⟩ := ne h1
    obtain ⟨n2, q2⟩ := ne h2
    rw [List.getElem?_set_ne n1] at h3
    rw [List.getElem?_set_ne n2] at h4
    exact E.inj j k b us c vs n q1 q2 h3 h4
theorem wipe_len : ∀ vs : List Nat, (wipeA A vs).length = A.length
  | [] => rfl
  | v :: vs => by simp [wipeA, wipe_len vs]
def noRefs (A : List AV) (vs : List Nat) : Bool := vs.all fun v => noRefAt A v
theorem wipe_ref {i : Nat} {us : List U} : ∀ vs : List Nat, (wipeA A vs)[i]? = some (.own true us) → A[i]? = some (.own true us)
  | [], h => h
  | v :: vs, h => by
    unfold wipeA at h
    by_cases hv : v = i
    · subst hv
      by_cases hl : v < (wipeA A vs).length
      · rw [List.getElem?_set_self hl] at h; cases h
      · rw [List.getElem?_eq_none (by simpa using hl)] at h; cases h
    · rw [List.getElem?_set_ne hv] at h
      exact wipe_ref vs h
theorem EmA.wipe (E : EmA O r M st A env) : ∀ vs : List Nat, noRefs A vs = true → EmA O r M st (wipeA A vs) (wipeE env vs)
  | [], _ => E
  | v :: vs, h => by
    unfold noRefs at h
    rw [List.all_cons, Bool.and_eq_true] at h
    exact (EmA.wipe E vs h.2).wipe1 v fun us e => noRefAt_ok h.1 us (wipe_ref vs e)
def mapU (f : U → Option U) : List U → Option (List U)
  | [] => some []
  | x :: xs => bnd (f x) fun y => bnd (mapU f xs) fun ys => some (y :: ys)
def filU (f : U → Option (Option U)) : List U → Option (List U)
  | [] => some []
  | x :: xs => bnd (f x) fun o => bnd (filU f xs) fun ys => some (match o with
    | some y => y :: ys
    | none => ys)
def catU (f : U → Option (List U)) : List U → Option (List U)
  | [] => some []
  | x :: xs => bnd (f x) fun y => bnd (catU f xs) fun ys => some (y ++ ys)
def len6 (us : List U) : Option (List U) := cond (Nat.ble us.length 1000000) (some us) none
theorem len6_ok {us vs : List U} (h : len6 us = some vs) : us = vs ∧ us.length ≤ 1000000 := by
  obtain ⟨h1, h2⟩ := cond_so h
  cases h2
  exact ⟨rfl, Nat.le_of_ble_eq_true h1⟩
/-- the turns of a comprehension -/
def CM (b : Bool) (A : List AV) (p : Pat) (n : TX) (m : EX) (f : List U → Option (List U)) : Prop := ∀ us vs, f us = some vs → ∀ O r M st env src, EmA O r M st A env → SrcE b (Zs O M) st src us → ∃ ws g, compM src p n m env (src.bound st) 0 st = .ok ws (st ++ g) ∧ Ems (Zs O M) (st ++ g) vs ws
theorem drop_head {us : List U} {x : U} {xs : List U} {k : Nat} (h : us.drop k = x :: xs) : us[k]? = some x ∧ us.drop (k + 1) = xs := by
  constructor
  · have : (us.drop k)[0]? = some x := by rw [h]; rfl
    rw [List.getElem?_drop] at this
    simpa using this
  · have : (us.drop k).drop 1 = xs := by rw [h]; rfl
    rw [List.drop_drop] at this
    exact this
theorem drop_nil {us : List U} {k : Nat} (h : us.drop k = []) : us[k]? = none := by
  rw [List.drop_eq_nil_iff] at h
  exact List.getElem?_eq_none h
theorem cm_mapN {S : Type} {b : Bool} {p : Pat} {m : EX} {tp : U → Option S} {F : S → List AV} {te : S → Option U} (hp : ∀ x, PV p A x (tp x) F) (he : ∀ s, EV (F s) m (te s)) {us : List U} {src : Src} :
    ∀ (xs vs : List U) (k N : Nat) (st : Sto), us.drop k = xs → mapU (fun x => bnd (tp x) te) xs = some vs → xs.length + 1 ≤ N → EmA O r M st A env → SrcE b (Zs O M) st src us → ∃ ws g, compM src p tYesM m env N k st = .ok ws (st ++ g) ∧ Ems (Zs O M) (st ++ g) vs ws
  | [], vs, k, N, st, hd, e, hN, E, hs => by
    cases e
    obtain ⟨N, rfl⟩ : ∃ N', N = N' + 1 := ⟨N - 1, by simp at hN; omega⟩
    refine ⟨[], [], ?_, .nil⟩
    unfold compM
    rw [hs.end_ (drop_nil hd), List.append_nil]
  | x :: xs, vs, k, N, st, hd, e, hN, E, hs => by
    obtain ⟨N, rfl⟩ : ∃ N', N = N' + 1 := ⟨N - 1, by simp at hN; omega⟩
    obtain ⟨y, e1, e⟩ := bnd_ok e
    obtain ⟨ys, e2, e⟩ := bnd_ok e
    cases e
    obtain ⟨s, e3, e4⟩ := bnd_ok e1
    obtain ⟨hx, hd'⟩ := drop_head hd
    obtain ⟨w, h1, q1⟩ := hs.at_ hx
    obtain ⟨env1, h2, E1⟩ := hp x s e3 O r M st env w E q1
    obtain ⟨wy, g1, h3, q3⟩ := he s y e4 O r M st env1 E1
    obtain ⟨ws, g2, h4, q4⟩ := cm_mapN hp he xs ys (k + 1) N (st ++ g1) hd' e2 (by simp at hN; omega) (E.ext g1) (hs.ext g1)
    refine ⟨wy :: ws, g1 ++ g2, ?_, by rw [← List.append_assoc]; exact .cons (q3.ext g2) q4⟩
    unfold compM
    rw [h1]
    simp only []
    rw [h2]
    simp only [tYesM, h3, h4]
    simp only [List.append_assoc]
theorem cm_map {S : Type} {b : Bool} {p : Pat} {m : EX} {tp : U → Option S} {F : S → List AV} {te : S → Option U} (hp : ∀ x, PV p A x (tp x) F) (he : ∀ s, EV (F s) m (te s)) : CM b A p tYesM m (mapU fun x => bnd (tp x) te) :=
  fun us vs e O r M st env src E hs => cm_mapN hp he us vs 0 _ st rfl e hs.bound E hs
theorem cm_filN {S : Type} {b : Bool} {p : Pat} {n : TX} {m : EX} {tp : U → Option S} {F : S → List AV} {tc : S → Option Bool} {te : S → Option U} (hp : ∀ x, PV p A x (tp x) F) (hc : ∀ s, TV (F s) n (tc s)) (he : ∀ s, EV (F s) m (te s)) {us : List U} {src : Src} :
    ∀ (xs vs : List U) (k N : Nat) (st : Sto), us.drop k = xs → filU (fun x => bnd (tp x) fun s => bnd (tc s) fun c => cond c (bnd (te s) fun y => some (some y)) (some none)) xs = some vs → xs.length + 1 ≤ N → EmA O r M st A env → SrcE b (Zs O M) st src us → ∃ ws g, compM src p n m env N k st = .ok ws (st ++ g) ∧ Ems (Zs O M) (st ++ g) vs ws
  | [], vs, k, N, st, hd, e, hN, E, hs => by
    cases e
    obtain ⟨N, rfl⟩ : ∃ N', N = N' + 1 := ⟨N - 1, by simp at hN; omega⟩
    refine ⟨[], [], ?_, .nil⟩
    unfold compM
    rw [hs.end_ (drop_nil hd), List.append_nil]
  | x :: xs, vs, k, N, st, hd, e, hN, E, hs => by
    obtain ⟨N, rfl⟩ : ∃ N', N = N' + 1 := ⟨N - 1, by simp at hN; omega⟩
    obtain ⟨o, e1, e⟩ := bnd_ok e
    obtain ⟨ys, e2, e⟩ := bnd_ok e
    cases e
    obtain ⟨s, e3, e4⟩ := bnd_ok e1
    obtain ⟨c, e5, e4⟩ := bnd_ok e4
    obtain ⟨hx, hd'⟩ := drop_head hd
    obtain ⟨w, h1, q1⟩ := hs.at_ hx
    obtain ⟨env1, h2, E1⟩ := hp x s e3 O r M st env w E q1
    obtain ⟨g0, h0⟩ := hc s c e5 O r M st env1 E1
    cases c with
    | false =>
      cases e4
      obtain ⟨ws, g2, h4, q4⟩ := cm_filN hp hc he xs ys (k + 1) N (st ++ g0) hd' e2 (by simp at hN; omega) (E.ext g0) (hs.ext g0)
      refine ⟨ws, g0 ++ g2, ?_, by rw [← List.append_assoc]; exact q4⟩
      unfold compM
      rw [h1]
      simp only []
      rw [h2]
      simp only [h0, h4]
      simp only [List.append_assoc]
    | true =>
      obtain ⟨y, e6, e4⟩ := bnd_ok e4
      cases e4
      obtain ⟨wy, g1, h3, q3⟩ := he s y e6 O r M _ env1 (E1.ext g0)
      obtain ⟨ws, g2, h4, q4⟩ := cm_filN hp hc he xs ys (k + 1) N (st ++ g0 ++ g1) hd' e2 (by simp at hN; omega) ((E.ext g0).ext g1) ((hs.ext g0).ext g1)
      refine ⟨wy :: ws, g0 ++ (g1 ++ g2), ?_, by rw [← List.append_assoc, ← List.append_assoc]; exact .cons (q3.ext g2) q4⟩
      unfold compM
      rw [h1]
      simp only []
      rw [h2]
      simp only [h0, h3, h4]
      simp only [List.append_assoc]
theorem cm_fil {S : Type} {b : Bool} {p : Pat} {n : TX} {m : EX} {tp : U → Option S} {F : S → List AV} {tc : S → Option Bool} {te : S → Option U} (hp : ∀ x, PV p A x (tp x) F) (hc : ∀ s, TV (F s) n (tc s)) (he : ∀ s, EV (F s) m (te s)) : CM b A p n m (filU fun x => bnd (tp x) fun s => bnd (tc s) fun c => cond c (bnd (te s) fun y => some (some y)) (some none)) :=
  fun us vs e O r M st env src E hs => cm_filN hp hc he us vs 0 _ st rfl e hs.bound E hs
theorem el_comp {b : Bool} {it : IX} {p : Pat} {n : TX} {m : EX} {vs : List Nat} {ti : Option (List U)} {f : List U → Option (List U)} {A0 : List AV} (hi : IV b A it ti) (h0 : wipeA A vs = A0) (hr : noRefs A vs = true) (hc : CM b A0 p n m f) : EL A (eComp it p n m vs) (bnd ti fun us => bnd (f us) len6) := by
  intro us e O r M st env E
  obtain ⟨xs, e1, e⟩ := bnd_ok e
  obtain ⟨ys, e2, e⟩ := bnd_ok e
  obtain ⟨rfl, hl⟩ := len6_ok e
  obtain ⟨src, g1, h1, hs⟩ := hi xs e1 O r M st env E
  obtain ⟨ws, g2, h2, q⟩ := hc xs ys e2 O r M _ (wipeE env vs) src (by rw [← h0]; exact (E.ext g1).wipe vs hr) hs
  refine AnsL.ans (g := g1) (AnsL.ans (g := g2) (AnsL.new ((E.ext g1).ext g2).bd (ws := ws) ?_ q))
  unfold eComp
  simp only [R.bind, h1, h2]
  rw [if_pos (by rw [← q.length]; exact hl)]
theorem cm2N {S : Type} {b b1 : Bool} {it1 : IX} {p p1 : Pat} {n1 : TX} {m : EX} {tp : U → Option S} {F F1 : S → List AV} {ti : S → Option (List U)} {f : S → List U → Option (List U)} (hp : ∀ x, PV p A x (tp x) F) (hi : ∀ s, IV b1 (F s) it1 (ti s)) (h1 : ∀ s, wipeA (F s) p1.slots = F1 s) (hr : ∀ s, noRefs (F s) p1.slots = true) (hc : ∀ s, CM b1 (F1 s) p1 n1 m (f s)) {us : List U} {src : Src} :
    ∀ (xs vs : List U) (k N : Nat) (st : Sto), us.drop k = xs → catU (fun x => bnd (tp x) fun s => bnd (ti s) (f s)) xs = some vs → xs.length + 1 ≤ N → EmA O r M st A env → SrcE b (Zs O M) st src us → ∃ ws g, compM2 src p tYesM it1 p1 n1 m env N k st = .ok ws (st ++ g) ∧ Ems (Zs O M) (st ++ g) vs ws
  | [], vs, k, N, st, hd, e, hN, E, hs => by
    cases e
    obtain ⟨N, rfl⟩ : ∃ N', N = N' + 1 := ⟨N - 1, by simp at hN; omega⟩
    refine ⟨[], [], ?_, .nil⟩
    unfold compM2
    rw [hs.end_ (drop_nil hd), List.append_nil]
  | x :: xs, vs, k, N, st, hd, e, hN, E, hs => by
    obtain ⟨N, rfl⟩ : ∃ N', N = N' + 1 := ⟨N - 1, by simp at hN; omega⟩
    obtain ⟨y, e1, e⟩ := bnd_ok e
    obtain ⟨ys, e2, e⟩ := bnd_ok e
    cases e
    obtain ⟨s, e3, e4⟩ := bnd_ok e1
    obtain ⟨zs, e5, e4⟩ := bnd_ok e4
    obtain ⟨hx, hd'⟩ := drop_head hd
    obtain ⟨w, k1, q1⟩ := hs.at_ hx
    obtain ⟨env1, k2, E1⟩ := hp x s e3 O r M st env w E q1
    obtain ⟨src1, g1, k3, hs1⟩ := hi s zs e5 O r M st env1 E1
    obtain ⟨wy, g2, k4, q2⟩ := hc s zs y e4 O r M _ (wipeE env1 p1.slots) src1 (by rw [← h1 s]; exact (E1.ext g1).wipe _ (hr s)) hs1
    obtain ⟨ws, g3, k5, q3⟩ := cm2N hp hi h1 hr hc xs ys (k + 1) N (st ++ g1 ++ g2) hd' e2 (by simp at hN; omega) ((E.ext g1).ext g2) ((hs.ext g1).ext g2)
    refine ⟨wy ++ ws, g1 ++ (g2 ++ g3), ?_, by rw [← List.append_assoc, ← List.append_assoc]; exact (q2.ext g3).append q3⟩
    unfold compM2
    rw [k1]
    simp only []
    rw [k2]
    simp only [tYesM, k3, k4, k5]
    simp only [List.append_assoc]
theorem el_comp2 {S : Type} {b b1 : Bool} {it it1 : IX} {p p1 : Pat} {n1 : TX} {m : EX} {vs : List Nat} {t0 : Option (List U)} {tp : U → Option S} {F F1 : S → List AV} {ti : S → Option (List U)} {f : S → List U → Option (List U)} {A0 : List AV} (h0 : IV b A it t0) (hA : wipeA A vs = A0) (hw : noRefs A vs = true) (hp : ∀ x, PV p A0 x (tp x) F) (hi : ∀ s, IV b1 (F s) it1 (ti s)) (h1 : ∀ s, wipeA (F s) p1.slots = F1 s) (hr : ∀ s, noRefs (F s) p1.slots = true) (hc : ∀ s, CM b1 (F1 s) p1 n1 m (f s)) :
    EL A (eComp2 it p tYesM it1 p1 n1 m vs) (bnd t0 fun us => bnd (catU (fun x => bnd (tp x) fun s => bnd (ti s) (f s)) us) len6) := by
  intro us e O r M st env E
  obtain ⟨xs, e1, e⟩ := bnd_ok e
  obtain ⟨ys, e2, e⟩ := bnd_ok e
  obtain ⟨rfl, hl⟩ := len6_ok e
  obtain ⟨src, g1, k1, hs⟩ := h0 xs e1 O r M st env E
  obtain ⟨ws, g2, k2, q⟩ := cm2N (env := wipeE env vs) hp hi h1 hr hc xs ys 0 _ _ rfl e2 hs.bound (by rw [← hA]; exact (E.ext g1).wipe vs hw) hs
  refine AnsL.ans (g := g1) (AnsL.ans (g := g2) (AnsL.new ((E.ext g1).ext g2).bd (ws := ws) ?_ q))
  unfold eComp2
  simp only [R.bind, k1, k2]
  rw [if_pos (by rw [← q.length]; exact hl)]
end
end
end Rx

/-! UxE: rules: statements, defs, calls. -/
namespace Rx
open PySem PySem.Spec PyProof.Rows L2
noncomputable section
section
variable {A B : List AV} {O M M' : Nat → Prop} {r : Option Nat} {st st' : Sto} {env : Env'}
/-- new places of the store come to be a def's own -/
theorem EmA.addM (E : EmA O r M st A env) (K : Nat → Prop) (g : Sto) (hK : ∀ j, K j → st.length ≤ j ∧ j < (st ++ g).length) : EmA O r (fun j => M j ∨ K j) (st ++ g) A env := by
  have E' := E.ext g
  have hz : ∀ m, m < st.length → Zs O (fun j => M j ∨ K j) m → Zs O M m := fun m hm z => z.elim .inl fun z => z.elim .inr fun z => absurd hm (by have := (hK m z).1; omega)
  have hs : ∀ m, m < st.length → ¬ Zs O M m → (st ++ g)[m]? = st[m]? := fun m hm _ => ext_get hm
  exact {
    len := E.len
    bO := E'.bO
    bM := fun j q => by
      rcases q with q | q
      · exact E'.bM j q
      · exact ⟨(hK j q).2, fun z => by have := E.bO j z; have := (hK j q).1; omega⟩
    rO := E.rO
    hr := E.hr
    at_ := fun i a h => by
      have := E.at_ i a h
      cases a with
      | no => trivial
      | val u => obtain ⟨w, e, q⟩ := this; exact ⟨w, e, q.step hz hs⟩
      | own b us =>
        obtain ⟨n, ws, e, o, s, q⟩ := this
        refine ⟨n, ws, e, ?_, (ext_get (lt_of_get s)).trans s, q.step hz hs⟩
        cases b with
        | true => exact o
        | false => exact .inl o
    inj := E.inj }
/-- what a slot may get -/
def Held (O M : Nat → Prop) (st : Sto) (L : Nat) (w : W) : AV → Prop
  | .val u => Em (Zs O M) st u w
  | .own false us => ∃ n ws, w = .ls n ∧ L ≤ n ∧ M n ∧ st[n]? = some (.lst ws) ∧ Ems (Zs O M) st us ws
  | _ => False
theorem Held.addM {L : Nat} {w : W} {a : AV} (h : Held O M st L w a) (K : Nat → Prop) (g : Sto) (hK : ∀ j, K j → st.length ≤ j) : Held O (fun j => M j ∨ K j) (st ++ g) L w a := by
  have hz : ∀ m, m < st.length → Zs O (fun j => M j ∨ K j) m → Zs O M m := fun m hm z => z.elim .inl fun z => z.elim .inr fun z => absurd hm (by have := hK m z; omega)
  have hs : ∀ m, m < st.length → ¬ Zs O M m → (st ++ g)[m]? = st[m]? := fun m hm _ => ext_get hm
  cases a with
  | no => exact h
  | val u => exact Em.step hz hs h
  | own b us =>
    cases b with
    | true => exact h
    | false =>
      obtain ⟨n, ws, e, hl, m, s, q⟩ := h
      exact ⟨n, ws, e, hl, .inl m, (ext_get (lt_of_get s)).trans s, q.step hz hs⟩
theorem EmA.setH {L : Nat} {w : W} {a : AV} (E : EmA O r M st A env) (h : Held O M st L w a) (i : Nat) (hi : ∀ us, A[i]? ≠ some (.own true us))
    (hf : ∀ n, w = .ls n → L ≤ n → isOwn a = true → ∀ (l : Nat) (b : Bool) (us : List U), A[l]? = some (.own b us) → env[l]? ≠ some (some (.ls n))) : EmA O r M st (A.set i a) (env.set i (some w)) := by
  cases a with
  | no => exact h.elim
  | val u => exact E.set h i hi
  | own b us =>
    cases b with
    | true => exact h.elim
    | false =>
      obtain ⟨n, ws, rfl, hl, hm, hg, hu⟩ := h
      have free := hf n rfl hl rfl
      exact {
        len := by simp [E.len]
        bO := E.bO
        bM := E.bM
        rO := E.rO
        hr := fun m e => by
          obtain ⟨j, vs, hj⟩ := E.hr m e
          refine ⟨j, vs, ?_⟩
          rw [List.getElem?_set_ne]
          · exact hj
          · rintro rfl; exact hi vs hj
        at_ := fun j a e => by
          by_cases hj : i = j
          · subst hj
            by_cases hl : i < A.length
            · rw [List.getElem?_set_self hl] at e
              cases e
              exact ⟨n, ws, List.getElem?_set_self (by rw [E.len]; exact hl), hm, hg, hu⟩
            · rw [List.getElem?_eq_none (by simpa using hl)] at e; cases e
          · rw [List.getElem?_set_ne hj] at e
            rw [List.getElem?_set_ne hj]
            exact E.at_ j a e
        inj := fun j k b xs c vs m h1 h2 h3 h4 => by
          have at_i : ∀ {b : Bool} {xs : List U}, (A.set i (.own false us))[i]? = some (.own b xs) → (env.set i (some (.ls n)))[i]? = some (some (.ls m)) → m = n := by
            intro b xs q e
            have hl : i < A.length := by
              by_cases hl : i < A.length
              · exact hl
              · rw [List.getElem?_eq_none (by simpa using hl)] at q; cases q
            rw [List.getElem?_set_self (by rw [E.len]; exact hl)] at e
            cases e; rfl
          by_cases hj : i = j
          · by_cases hk : i = k
            · exact hj.symm.trans hk
            · subst hj
              have e1 := at_i h1 h3
              rw [List.getElem?_set_ne hk] at h2 h4
              subst e1
              exact absurd h4 (free k c vs h2)
          · by_cases hk : i = k
            · subst hk
              have e1 := at_i h2 h4
              rw [List.getElem?_set_ne hj] at h1 h3
              subst e1
              exact absurd h3 (free j b xs h1)
            · rw [List.getElem?_set_ne hj] at h1 h3
              rw [List.getElem?_set_ne hk] at h2 h4
              exact E.inj j k b xs c vs m h1 h2 h3 h4 }
theorem EmA.free (E : EmA O r M st A env) {n : Nat} (hn : st.length ≤ n) : ∀ (l : Nat) (b : Bool) (us : List U), A[l]? = some (.own b us) → env[l]? ≠ some (some (.ls n)) := by
  intro l b us q e
  obtain ⟨k, ws, e2, o, s, _⟩ := E.own q
  rw [e] at e2
  cases e2
  have := lt_of_get s
  omega

/-- an expression whose value a slot gets: a value, or a list of the def's own -/
def XK {S : Type} (A : List AV) (m : EX) (t : Option S) (G : S → AV) : Prop := ∀ s, t = some s → ∀ O r M st env, EmA O r M st A env → ∃ (w : W) (g : Sto) (K : Nat → Prop), m env st = .ok w (st ++ g) ∧ (∀ j, K j → st.length ≤ j ∧ j < (st ++ g).length) ∧ Held O (fun j => M j ∨ K j) (st ++ g) st.length w (G s)
theorem xk_v {m : EX} {t : Option U} (h : EV A m t) : XK A m t .val := by
  intro u e O r M st env E
  obtain ⟨w, g, h1, q⟩ := h u e O r M st env E
  exact ⟨w, g, fun _ => False, h1, fun j z => z.elim, q.wk fun n z => z.elim .inl fun z => z.elim .inr fun z => z.elim⟩
theorem xk_l {m : EX} {t : Option (List U)} (h : EL A m t) : XK A m t (.own false) := by
  intro u e O r M st env E
  obtain ⟨n, ws, g, h1, hn, h2, q⟩ := h u e O r M st env E
  exact ⟨.ls n, g, fun j => j = n, h1, fun j z => by subst z; exact ⟨hn, lt_of_get h2⟩, n, ws, rfl, hn, .inr rfl, h2, q.wk fun n z => z.elim (fun z => .inl (.inl z)) fun z => z.elim (fun z => .inl (.inr z)) .inr⟩

/-! ### statements that go on -/
def SN {S : Type} (A : List AV) (m : SX) (t : Option S) (F : S → List AV) : Prop := ∀ s, t = some s → ∀ O r M st env, EmA O r M st A env → ∃ M' st' env', m env st = .ok (.nx env') st' ∧ Nx r M st M' st' ∧ EmA O r M' st' (F s) env'
theorem Nx.add (K : Nat → Prop) (g : Sto) (hK : ∀ j, K j → st.length ≤ j) : Nx r M st (fun j => M j ∨ K j) (st ++ g) := ⟨by simp, fun _ h _ _ => ext_get h, fun j h => h.elim .inl fun h => .inr (hK j h)⟩
theorem sn_asg {S : Type} {i : Nat} {m : EX} {t : Option S} {G : S → AV} (h : XK A m t G) (hi : noRefAt A i = true := by rfl) : SN A (sPat (.nm i) m) t fun s => A.set i (G s) := by
  intro s e O r M st env E
  obtain ⟨w, g, K, h1, hK, q⟩ := h s e O r M st env E
  refine ⟨_, st ++ g, env.set i (some w), ?_, Nx.add K g fun j z => (hK j z).1, (E.addM K g hK).setH q i (noRefAt_ok hi) fun n _ hn _ => E.free hn⟩
  unfold sPat
  simp only [R.bind, h1, Pat.set]
theorem Ems.idx (h : True) : True := h
theorem sn_par {S1 S2 : Type} {i j : Nat} {m1 m2 : EX} {t1 : Option S1} {t2 : Option S2} {G1 : S1 → AV} {G2 : S2 → AV} (h1 : XK A m1 t1 G1) (h2 : XK A m2 t2 G2) (hi : noRefAt A i = true := by rfl) (hj : noRefAt A j = true := by rfl) : SN A (sPar i j (aCons m1 (aCons m2 aNil))) (bnd t1 fun a => bnd t2 fun b => some (a, b)) fun s => (A.set i (G1 s.1)).set j (G2 s.2) := by
  intro s e O r M st env E
  obtain ⟨a, e1, e⟩ := bnd_ok e
  obtain ⟨b, e2, e⟩ := bnd_ok e
  cases e
  obtain ⟨w1, g1, K1, k1, hK1, q1⟩ := h1 a e1 O r M st env E
  have E1 := E.addM K1 g1 hK1
  obtain ⟨w2, g2, K2, k2, hK2, q2⟩ := h2 b e2 O r _ _ env E1
  have E2 := E1.addM K2 g2 hK2
  have q1' := q1.addM K2 g2 fun j z => (hK2 j z).1
  refine ⟨_, st ++ g1 ++ g2, (env.set i (some w1)).set j (some w2), ?_, (Nx.add K1 g1 fun j z => (hK1 j z).1).trans (Nx.add K2 g2 fun j z => (hK2 j z).1), ?_⟩
  · unfold sPar aCons aNil
    simp only [R.bind, k1, k2]
  · have E3 := E2.setH q1' i (noRefAt_ok hi) fun n _ hn _ => E.free hn
    refine E3.setH q2 j ?_ ?_
    · intro us z
      by_cases hij : i = j
      · subst hij
        by_cases hl : i < A.length
        · rw [List.getElem?_set_self hl] at z
          have z : G1 a = .own true us := by simpa using z
          rw [z] at q1
          exact q1
        · rw [List.getElem?_eq_none (by simpa using hl)] at z; cases z
      · rw [List.getElem?_set_ne hij] at z
        exact noRefAt_ok hj us z
    · intro n hw hn _ l b' us z e3
      by_cases hil : i = l
      · subst hil
        by_cases hl : i < A.length
        · rw [List.getElem?_set_self hl] at z
          have z : G1 a = .own b' us := by simpa using z
          rw [List.getElem?_set_self (by rw [E.len]; exact hl)] at e3
          rw [z] at q1
          cases b' with
          | true => exact q1
          | false =>
            obtain ⟨n1, ws, e4, _, _, s4, _⟩ := q1
            rw [e4] at e3
            cases e3
            have := lt_of_get s4
            omega
        · rw [List.getElem?_eq_none (by simpa using hl)] at z; cases z
      · rw [List.getElem?_set_ne hil] at z e3
        refine E.free (n := n) ?_ l b' us z e3
        rw [List.length_append] at hn
        omega
theorem sn_par3 {i j k : Nat} {m1 m2 m3 : EX} {t1 t2 t3 : Option U} (h1 : EV A m1 t1) (h2 : EV A m2 t2) (h3 : EV A m3 t3) (hi : noRefAt A i = true := by rfl) (hj : noRefAt A j = true := by rfl) (hk : noRefAt A k = true := by rfl) : SN A (sPar3 i j k (aCons m1 (aCons m2 (aCons m3 aNil)))) (bnd t1 fun a => bnd t2 fun b => bnd t3 fun c => some (a, b, c)) fun s => ((A.set i (.val s.1)).set j (.val s.2.1)).set k (.val s.2.2) := by
  intro s e O r M st env E
  obtain ⟨a, e1, e⟩ := bnd_ok e
  obtain ⟨b, e2, e⟩ := bnd_ok e
  obtain ⟨c, e3, e⟩ := bnd_ok e
  cases e
  obtain ⟨w1, g1, k1, q1⟩ := h1 a e1 O r M st env E
  obtain ⟨w2, g2, k2, q2⟩ := h2 b e2 O r M _ env (E.ext g1)
  obtain ⟨w3, g3, k3, q3⟩ := h3 c e3 O r M _ env ((E.ext g1).ext g2)
  refine ⟨M, st ++ g1 ++ g2 ++ g3, ((env.set i (some w1)).set j (some w2)).set k (some w3), ?_, ((Nx.ext g1).trans (Nx.ext g2)).trans (Nx.ext g3), (((((E.ext g1).ext g2).ext g3).set ((q1.ext g2).ext g3) i (noRefAt_ok hi)).set (q2.ext g3) j (noRef_set (noRefAt_ok hj))).set q3 k (noRef_set (noRef_set (noRefAt_ok hk)))⟩
  unfold sPar3 aCons aNil
  simp only [R.bind, k1, k2, k3]
theorem sn_pat {S : Type} {p : Pat} {m : EX} {t : Option U} {tp : U → Option S} {F : S → List AV} (h : EV A m t) (hp : ∀ x, PV p A x (tp x) F) : SN A (sPat p m) (bnd t tp) F := by
  intro s e O r M st env E
  obtain ⟨u, e1, e⟩ := bnd_ok e
  obtain ⟨w, g, h1, q⟩ := h u e1 O r M st env E
  obtain ⟨env', h2, E2⟩ := hp u s e O r M _ env w (E.ext g) q
  refine ⟨M, st ++ g, env', ?_, Nx.ext g, E2⟩
  unfold sPat
  simp only [R.bind, h1, h2]
theorem sn_nil {S : Type} {s : S} {F : S → List AV} (w : Wk A (F s)) : SN A sNil (some s) F := by
  intro s' e O r M st env E
  cases e
  exact ⟨_, st, env, rfl, Nx.weak, E.weak w⟩
theorem sn_to {S T : Type} {m : SX} {t : Option S} {F : S → List AV} {G : T → List AV} {f : S → T} (h : SN A m t F) (w : ∀ s, Wk (F s) (G (f s))) : SN A m (bnd t fun s => some (f s)) G := by
  intro s e O r M st env E
  obtain ⟨x, e1, e⟩ := bnd_ok e
  cases e
  obtain ⟨M', st', env', h1, N, E1⟩ := h x e1 O r M st env E
  exact ⟨_, st', env', h1, N.trans Nx.weak, E1.weak (w x)⟩
theorem sn_seq {S T : Type} {m n : SX} {t : Option S} {F : S → List AV} {k : S → Option T} {G : T → List AV} (h : SN A m t F) (h2 : ∀ s, SN (F s) n (k s) G) : SN A (sSeq m n) (bnd t k) G := by
  intro s e O r M st env E
  obtain ⟨x, e1, e⟩ := bnd_ok e
  obtain ⟨M1, s1, env1, k1, N1, E1⟩ := h x e1 O r M st env E
  obtain ⟨M2, s2, env2, k2, N2, E2⟩ := h2 x s e O r M1 s1 env1 E1
  refine ⟨M2, s2, env2, ?_, N1.trans N2, E2⟩
  unfold sSeq
  simp only [k1, k2]
theorem sn_wk {S : Type} {m : SX} {t : Option S} {F : S → List AV} (w : Wk A B) (h : SN B m t F) : SN A m t F := by
  intro s e O r M st env E
  obtain ⟨M', st', env', h1, N, E1⟩ := h s e O r _ st env (E.weak w)
  exact ⟨M', st', env', h1, Nx.weak.trans N, E1⟩
theorem sn_if {S : Type} {c : TX} {p q : SX} {tc : Option Bool} {tp tq : Option S} {F : S → List AV} (hc : TV A c tc) (hp : SN A p tp F) (hq : SN A q tq F) : SN A (sIf c p q) (bnd tc fun b => cond b tp tq) F := by
  intro s e O r M st env E
  obtain ⟨b, e1, e⟩ := bnd_ok e
  obtain ⟨g, k1⟩ := hc b e1 O r M st env E
  cases b with
  | true =>
    obtain ⟨M', st', env', h1, N, E1⟩ := hp s e O r M _ env (E.ext g)
    exact ⟨M', st', env', by unfold sIf; simp only [R.bind, k1, if_true, h1], (Nx.ext g).trans N, E1⟩
  | false =>
    obtain ⟨M', st', env', h1, N, E1⟩ := hq s e O r M _ env (E.ext g)
    exact ⟨M', st', env', by unfold sIf; simp only [R.bind, k1, Bool.false_eq_true, if_false, h1], (Nx.ext g).trans N, E1⟩
def appU (us : List U) (u : U) : Option (List U) := cond (Nat.blt us.length 100000) (some (us ++ [u])) none
theorem noRef_own {i : Nat} {b : Bool} {us : List U} (h : A[i]? = some (.own b us)) : True := trivial
theorem sn_app {i : Nat} {b : Bool} {us : List U} {m : EX} {t : Option U} (hi : A[i]? = some (.own b us)) (h : EV A m t) : SN A (sExpr (eMth mAppend (evar i) (aCons m aNil))) (bnd t (appU us)) fun vs => A.set i (.own b vs) := by
  intro vs e O r M st env E
  obtain ⟨u, e1, e⟩ := bnd_ok e
  obtain ⟨hl, e⟩ := cond_so e
  cases e
  obtain ⟨w, g, k1, q⟩ := h u e1 O r M st env E
  have E' := E.ext g
  obtain ⟨n, ws, e2, o, s, q2⟩ := E'.own hi
  have hl' : ws.length < 100000 := by
    rw [← q2.length]
    simpa [Nat.blt_eq] using hl
  refine ⟨M, (st ++ g).set n (.lst (ws ++ [w])), env, ?_, (Nx.ext g).trans (Nx.put E' hi e2), E'.put hi e2 (q2.snoc q)⟩
  unfold sExpr eMth aCons aNil evar
  simp only [R.bind, e2, k1, mAppend, s]
  rw [if_pos hl']
def extU (us : List U) (v : U) : Option (List U) := match v with
  | .lst vs => cond (len5 (us.length + vs.length)) (some (us ++ vs)) none
  | _ => none
theorem sn_ext {i : Nat} {b : Bool} {us : List U} {m : EX} {t : Option U} (hi : A[i]? = some (.own b us)) (h : EV A m t) : SN A (sExpr (eMth mExtend (evar i) (aCons m aNil))) (bnd t (extU us)) fun vs => A.set i (.own b vs) := by
  intro vs e O r M st env E
  obtain ⟨u, e1, e⟩ := bnd_ok e
  obtain ⟨w, g, k1, q⟩ := h u e1 O r M st env E
  have E' := E.ext g
  cases u with
  | lst xs =>
    obtain ⟨hl, e⟩ := cond_so e
    cases e
    obtain ⟨m1, ys, rfl, e3, q3⟩ := emb_lst q.b
    obtain ⟨n, ws, e2, o, s, q2⟩ := E'.own hi
    refine ⟨M, (st ++ g).set n (.lst (ws ++ ys)), env, ?_, (Nx.ext g).trans (Nx.put E' hi e2), E'.put hi e2 (q2.append q3)⟩
    unfold sExpr eMth aCons aNil evar
    simp only [R.bind, e2, k1, mExtend, s, e3]
    rw [if_pos (by rw [← q2.length, ← q3.length]; exact len5_le hl)]
  | _ => cases e
/-- xs[k] = v -/
def setU (us : List U) (k v : U) : Option (List U) := match k with
  | .int i => bnd (ixN us.length i) fun j => some (us.set j v)
  | _ => none
theorem sn_set {i : Nat} {b : Bool} {us : List U} {mi m : EX} {ti t : Option U} (hi : A[i]? = some (.own b us)) (hx : EV A mi ti) (h : EV A m t) : SN A (sTg (.sub (evar i) mi) m) (bnd t fun v => bnd ti fun k => setU us k v) fun vs => A.set i (.own b vs) := by
  intro vs e O r M st env E
  obtain ⟨u, e1, e⟩ := bnd_ok e
  obtain ⟨k, e3, e⟩ := bnd_ok e
  obtain ⟨w, g, k1, q⟩ := h u e1 O r M st env E
  obtain ⟨wk, g2, k2, qk⟩ := hx k e3 O r M _ env (E.ext g)
  have E' := (E.ext g).ext g2
  cases k with
  | int z =>
    obtain ⟨j, ej, e⟩ := bnd_ok e
    cases e
    cases qk
    obtain ⟨n, ws, e2, o, s, q2⟩ := E'.own hi
    refine ⟨M, (st ++ g ++ g2).set n (.lst (ws.set j w)), env, ?_, ((Nx.ext g).trans (Nx.ext g2)).trans (Nx.put E' hi e2), E'.put hi e2 ((q2.set (q.ext g2)) j)⟩
    rw [q2.length] at ej
    unfold sTg Tg.set evar
    simp only [R.bind, k1, e2, k2, fSet, s, ej]
  | _ => cases e
theorem sn_augI {i : Nat} {x : U} {m : EX} {t : Option U} {f : W → W → Sto → R W} {p : U → U → Option U} (hi : A[i]? = some (.val x)) (hp : OP2 f p) (h : EV A m t) (hr : noRefAt A i = true := by rfl) : SN A (sAug i f m) (bnd t fun y => p x y) fun v => A.set i (.val v) := by
  intro v e O r M st env E
  obtain ⟨y, e1, e⟩ := bnd_ok e
  obtain ⟨w, g, k1, q⟩ := h y e1 O r M st env E
  obtain ⟨wx, e2, qx⟩ := (E.ext g).val hi
  obtain ⟨wv, g2, k2, q2⟩ := hp x y v e (Zs O M) _ wx w (E.ext g).bd qx.b q.b
  refine ⟨M, st ++ g ++ g2, env.set i (some wv), ?_, (Nx.ext g).trans (Nx.ext g2), ((E.ext g).ext g2).set q2 i (noRefAt_ok hr)⟩
  unfold sAug
  rw [e2]
  simp only [R.bind, k1, k2]
def addI : U → U → Option U
  | .int i, v => match v with
    | .int j => some (.int (Int.add i j))
    | _ => none
  | _, _ => none
theorem op_addI : OP2 fAddI addI := by
  intro a b u e Z st wa wb hZ ha hb
  cases a with
  | int i =>
    cases b with
    | int j =>
      cases e
      have := emb_int ha; subst this
      have := emb_int hb; subst this
      exact .here rfl (.int _)
    | _ => cases e
  | _ => cases e
theorem op_subI : OP2 fSubI subU := by
  intro a b u e Z st wa wb hZ ha hb
  cases a with
  | int i =>
    cases b with
    | int j =>
      cases e
      have := emb_int ha; subst this
      have := emb_int hb; subst this
      exact .here rfl (.int _)
    | _ => cases e
  | _ => cases e
theorem sn_expr {m : EX} {t : Option U} (h : EV A m t) : SN A (sExpr m) (bnd t fun _ => some ()) fun _ => A := by
  intro s e O r M st env E
  obtain ⟨u, e1, e⟩ := bnd_ok e
  obtain ⟨w, g, k1, q⟩ := h u e1 O r M st env E
  exact ⟨M, st ++ g, env, by unfold sExpr; simp only [R.bind, k1], Nx.ext g, E.ext g⟩
/-! ### loops -/
def folU {S : Type} (f : U → S → Option S) : List U → S → Option S
  | [], s => some s
  | x :: xs, s => bnd (f x s) fun s => folU f xs s
theorem SrcE.nx {src : Src} {us : List U} (E : EmA O r M st A env) (N : Nx r M st M' st') (h : SrcE true (Zs O M) st src us) : SrcE true (Zs O M') st' src us := h.step
  (fun n hn z => z.elim .inl fun z => (N.ow n z).elim .inr fun q => absurd q (Nat.not_le_of_lt hn))
  fun n hn z => N.fr n hn (fun e => z (.inl (E.rO n e))) fun e => z (.inr e)
theorem fol_run {S Q : Type} {p : Pat} {body : SX} {F : S → List AV} {tp : U → Option Q} {F1 : S → Q → List AV} {tb : S → Q → Option S} (hp : ∀ s x, PV p (F s) x (tp x) (F1 s)) (hb : ∀ s q, SN (F1 s q) body (tb s q) F) {us : List U} {src : Src} :
    ∀ (xs : List U) (k N : Nat) (s s' : S) (M : Nat → Prop) (st : Sto) (env : Env'), us.drop k = xs → folU (fun x s => bnd (tp x) fun q => tb s q) xs s = some s' → xs.length + 1 ≤ N → EmA O r M st (F s) env → SrcE true (Zs O M) st src us →
      ∃ M' st' env', forM src p body N k env st = .ok (.nx env') st' ∧ Nx r M st M' st' ∧ EmA O r M' st' (F s') env'
  | [], k, N, s, s', M, st, env, hd, e, hN, E, hs => by
    cases e
    obtain ⟨N, rfl⟩ : ∃ N', N = N' + 1 := ⟨N - 1, by simp at hN; omega⟩
    refine ⟨M, st, env, ?_, Nx.refl, E⟩
    unfold forM
    rw [hs.end_ (drop_nil hd)]
  | x :: xs, k, N, s, s', M, st, env, hd, e, hN, E, hs => by
    obtain ⟨N, rfl⟩ : ∃ N', N = N' + 1 := ⟨N - 1, by simp at hN; omega⟩
    obtain ⟨s1, e1, e⟩ := bnd_ok e
    obtain ⟨q, e2, e1⟩ := bnd_ok e1
    obtain ⟨hx, hd'⟩ := drop_head hd
    obtain ⟨w, h1, q1⟩ := hs.at_ hx
    obtain ⟨env1, h2, E1⟩ := hp s x q e2 O r M st env w E q1
    obtain ⟨M2, s2, env2, h3, N2, E2⟩ := hb s q s1 e1 O r M st env1 E1
    obtain ⟨M3, s3, env3, h4, N3, E3⟩ := fol_run hp hb xs (k + 1) N s1 s' M2 s2 env2 hd' e (by simp at hN; omega) E2 (hs.nx E N2)
    refine ⟨M3, s3, env3, ?_, N2.trans N3, E3⟩
    unfold forM
    rw [h1]
    simp only []
    rw [h2]
    simp only [h3, h4]
theorem sn_for {S Q : Type} {it : IX} {p : Pat} {body : SX} {F : S → List AV} {ti : Option (List U)} {tp : U → Option Q} {F1 : S → Q → List AV} {tb : S → Q → Option S} {s0 : S} (hi : IV true A it ti) (w : Wk A (F s0)) (hp : ∀ s x, PV p (F s) x (tp x) (F1 s)) (hb : ∀ s q, SN (F1 s q) body (tb s q) F) : SN A (sFor it p body) (bnd ti fun us => folU (fun x s => bnd (tp x) fun q => tb s q) us s0) F := by
  intro s e O r M st env E
  obtain ⟨us, e1, e⟩ := bnd_ok e
  obtain ⟨src, g, h1, hs⟩ := hi us e1 O r M st env E
  have E' := (E.ext g).weak w
  obtain ⟨M', st', env', h2, N, E2⟩ := fol_run hp hb us 0 _ s0 s _ _ env rfl e hs.bound E' (hs.nx (E.ext g) Nx.weak)
  refine ⟨M', st', env', ?_, ((Nx.ext g).trans Nx.weak).trans N, E2⟩
  unfold sFor
  simp only [R.bind, h1, h2]
def whlU {S : Type} (c : S → Option Bool) (f : S → Option S) : Nat → S → Option S
  | 0, _ => none
  | n + 1, s => bnd (c s) fun b => cond b (bnd (f s) fun s => whlU c f n s) (some s)
theorem whl_run {S : Type} {c : TX} {body : SX} {F : S → List AV} {tc : S → Option Bool} {tb : S → Option S} (hc : ∀ s, TV (F s) c (tc s)) (hb : ∀ s, SN (F s) body (tb s) F) :
    ∀ (N : Nat) (s s' : S) (M : Nat → Prop) (st : Sto) (env : Env'), whlU tc tb N s = some s' → EmA O r M st (F s) env →
      ∃ M' st' env', whileM c body N env st = .ok (.nx env') st' ∧ Nx r M st M' st' ∧ EmA O r M' st' (F s') env'
  | 0, s, s', M, st, env, e, E => by cases e
  | N + 1, s, s', M, st, env, e, E => by
    obtain ⟨b, e1, e⟩ := bnd_ok e
    obtain ⟨g, h1⟩ := hc s b e1 O r M st env E
    cases b with
    | false =>
      cases e
      refine ⟨M, st ++ g, env, ?_, Nx.ext g, E.ext g⟩
      unfold whileM
      simp only [h1]
    | true =>
      obtain ⟨s1, e2, e⟩ := bnd_ok e
      obtain ⟨M2, s2, env2, h3, N2, E2⟩ := hb s s1 e2 O r M _ env (E.ext g)
      obtain ⟨M3, s3, env3, h4, N3, E3⟩ := whl_run hc hb N s1 s' M2 s2 env2 e E2
      refine ⟨M3, s3, env3, ?_, ((Nx.ext g).trans N2).trans N3, E3⟩
      unfold whileM
      simp only [h1, h3, h4]
theorem sn_while {S : Type} {n : Nat} {c : TX} {body : SX} {F : S → List AV} {tc : S → Option Bool} {tb : S → Option S} {s0 : S} (w : Wk A (F s0)) (hc : ∀ s, TV (F s) c (tc s)) (hb : ∀ s, SN (F s) body (tb s) F) : SN A (sWhile n c body) (whlU tc tb n s0) F := by
  intro s e O r M st env E
  obtain ⟨M', st', env', h2, N, E2⟩ := whl_run hc hb n s0 s _ _ env e (E.weak w)
  exact ⟨M', st', env', h2, Nx.weak.trans N, E2⟩

/-! ### statements that may end the def -/
inductive Fw (S B : Type) where
  | nx (s : S) | rt (u : U) (rs : List U) | bk (b : B) | ct (b : B)
/-- where a statement ends -/
def Out {S B : Type} (O : Nat → Prop) (r : Option Nat) (M' : Nat → Prop) (st' : Sto) (F : S → List AV) (FB : B → List AV) (res : R Fl) : Fw S B → Prop
  | .nx s => ∃ env', res = .ok (.nx env') st' ∧ EmA O r M' st' (F s) env'
  | .rt u rs => ∃ w, res = .ok (.rt w) st' ∧ Em O st' u w ∧ ∀ n, r = some n → ∃ ws, st'[n]? = some (.lst ws) ∧ Ems O st' rs ws
  | .bk b => ∃ env', res = .ok (.bk env') st' ∧ EmA O r M' st' (FB b) env'
  | .ct b => ∃ env', res = .ok (.ct env') st' ∧ EmA O r M' st' (FB b) env'
def SS {S B : Type} (A : List AV) (m : SX) (t : Option (Fw S B)) (F : S → List AV) (FB : B → List AV) : Prop := ∀ fl, t = some fl → ∀ O r M st env, EmA O r M st A env → ∃ M' st', Nx r M st M' st' ∧ Out O r M' st' F FB (m env st) fl
variable {S T C : Type} {F : S → List AV} {G : T → List AV} {FB : C → List AV}
theorem ss_none {m : SX} : SS A m none F FB := fun fl e => by cases e
theorem ss_of {m : SX} {t : Option S} (h : SN A m t F) : SS A m (bnd t fun s => some (.nx s)) F FB := by
  intro fl e O r M st env E
  obtain ⟨s, e1, e⟩ := bnd_ok e
  cases e
  obtain ⟨M', st', env', h1, N, E1⟩ := h s e1 O r M st env E
  exact ⟨M', st', N, env', h1, E1⟩
theorem ss_sn {m n : SX} {t : Option S} {k : S → Option (Fw T C)} (h : SN A m t F) (h2 : ∀ s, SS (F s) n (k s) G FB) : SS A (sSeq m n) (bnd t k) G FB := by
  intro fl e O r M st env E
  obtain ⟨x, e1, e⟩ := bnd_ok e
  obtain ⟨M1, s1, env1, k1, N1, E1⟩ := h x e1 O r M st env E
  obtain ⟨M2, s2, N2, h3⟩ := h2 x fl e O r M1 s1 env1 E1
  refine ⟨M2, s2, N1.trans N2, ?_⟩
  have : sSeq m n env st = n env1 s1 := by unfold sSeq; rw [k1]
  rw [this]
  exact h3
/-- a statement that may end the def, then others -/
def seqF {S T C : Type} (t : Option (Fw S C)) (k : S → Option (Fw T C)) : Option (Fw T C) := bnd t fun fl => match fl with
  | .nx s => k s
  | .rt u rs => some (.rt u rs)
  | .bk b => some (.bk b)
  | .ct b => some (.ct b)
theorem ss_seq {m n : SX} {t : Option (Fw S C)} {k : S → Option (Fw T C)} (h : SS A m t F FB) (h2 : ∀ s, SS (F s) n (k s) G FB) : SS A (sSeq m n) (seqF t k) G FB := by
  intro fl e O r M st env E
  obtain ⟨x, e1, e⟩ := bnd_ok e
  obtain ⟨M1, s1, N1, k1⟩ := h x e1 O r M st env E
  cases x with
  | nx s =>
    obtain ⟨env1, k1, E1⟩ := k1
    obtain ⟨M2, s2, N2, h3⟩ := h2 s fl e O r M1 s1 env1 E1
    refine ⟨M2, s2, N1.trans N2, ?_⟩
    have : sSeq m n env st = n env1 s1 := by unfold sSeq; rw [k1]
    rw [this]
    exact h3
  | rt u rs =>
    cases e
    obtain ⟨w, k1, q⟩ := k1
    exact ⟨M1, s1, N1, w, by unfold sSeq; rw [k1], q⟩
  | bk b =>
    cases e
    obtain ⟨w, k1, q⟩ := k1
    exact ⟨M1, s1, N1, w, by unfold sSeq; rw [k1], q⟩
  | ct b =>
    cases e
    obtain ⟨w, k1, q⟩ := k1
    exact ⟨M1, s1, N1, w, by unfold sSeq; rw [k1], q⟩
theorem ss_wk {m : SX} {t : Option (Fw S C)} (w : Wk A B) (h : SS B m t F FB) : SS A m t F FB := by
  intro fl e O r M st env E
  obtain ⟨M', st', N, h1⟩ := h fl e O r _ st env (E.weak w)
  exact ⟨M', st', Nx.weak.trans N, h1⟩
theorem ss_if {c : TX} {p q : SX} {tc : Option Bool} {tp tq : Option (Fw S C)} (hc : TV A c tc) (hp : SS A p tp F FB) (hq : SS A q tq F FB) : SS A (sIf c p q) (bnd tc fun b => cond b tp tq) F FB := by
  intro fl e O r M st env E
  obtain ⟨b, e1, e⟩ := bnd_ok e
  obtain ⟨g, k1⟩ := hc b e1 O r M st env E
  cases b with
  | true =>
    obtain ⟨M', st', N, h1⟩ := hp fl e O r M _ env (E.ext g)
    refine ⟨M', st', (Nx.ext g).trans N, ?_⟩
    have : sIf c p q env st = p env (st ++ g) := by unfold sIf; simp only [R.bind, k1, if_true]
    rw [this]
    exact h1
  | false =>
    obtain ⟨M', st', N, h1⟩ := hq fl e O r M _ env (E.ext g)
    refine ⟨M', st', (Nx.ext g).trans N, ?_⟩
    have : sIf c p q env st = q env (st ++ g) := by unfold sIf; simp only [R.bind, k1, Bool.false_eq_true, if_false]
    rw [this]
    exact h1
theorem seq_assoc (a b c : SX) : sSeq (sSeq a b) c = sSeq a (sSeq b c) := by
  funext env st
  unfold sSeq
  cases a env st with
  | err => rfl
  | ok f s => cases f <;> rfl
theorem seq_if (c : TX) (p q n : SX) : sSeq (sIf c p q) n = sIf c (sSeq p n) (sSeq q n) := by
  funext env st
  unfold sSeq sIf
  cases c env st with
  | err => rfl
  | ok b s => cases b <;> rfl
theorem seq_nil (n : SX) : sSeq sNil n = n := rfl
theorem ss_ifq {c : TX} {p q n : SX} {tc : Option Bool} {tp tq : Option (Fw S C)} (hc : TV A c tc) (hp : SS A (sSeq p n) tp F FB) (hq : SS A (sSeq q n) tq F FB) : SS A (sSeq (sIf c p q) n) (bnd tc fun b => cond b tp tq) F FB := by
  rw [seq_if]
  exact ss_if hc hp hq
theorem ss_ass {a b c : SX} {t : Option (Fw S C)} (h : SS A (sSeq a (sSeq b c)) t F FB) : SS A (sSeq (sSeq a b) c) t F FB := by
  rw [seq_assoc]
  exact h
theorem ss_nl {n : SX} {t : Option (Fw S C)} (h : SS A n t F FB) : SS A (sSeq sNil n) t F FB := h
theorem ss_nx {s : S} (w : Wk A (F s)) : SS A sNil (some (.nx s)) F FB := ss_of (t := some s) (sn_nil w)
theorem ss_ret {m : EX} {t : Option U} (h : EV A m t) (hr : A.any isRef = false := by rfl) : SS A (sRet m) (bnd t fun u => some (.rt u [])) F FB := by
  intro fl e O r M st env E
  obtain ⟨u, e1, e⟩ := bnd_ok e
  cases e
  obtain ⟨w, g, k1, q⟩ := h u e1 O r M st env E
  refine ⟨M, st ++ g, Nx.ext g, w, by unfold sRet; simp only [R.bind, k1], q.wk fun _ z => .inl z, fun n hn => ?_⟩
  rw [E.noref hr] at hn
  cases hn
theorem EmA.refAt (E : EmA O r M st A env) {i : Nat} {us : List U} (h : A[i]? = some (.own true us)) : ∀ n, r = some n → ∃ ws, st[n]? = some (.lst ws) ∧ Ems O st us ws := by
  intro n hn
  obtain ⟨m, ws, _, o, s, q⟩ := E.own h
  have o : r = some m := o
  rw [hn] at o
  cases o
  exact ⟨ws, s, q.wk fun _ z => .inl z⟩
theorem ss_retR {i : Nat} {us : List U} {m : EX} {t : Option U} (hi : A[i]? = some (.own true us)) (h : EV A m t) : SS A (sRet m) (bnd t fun u => some (.rt u us)) F FB := by
  intro fl e O r M st env E
  obtain ⟨u, e1, e⟩ := bnd_ok e
  cases e
  obtain ⟨w, g, k1, q⟩ := h u e1 O r M st env E
  exact ⟨M, st ++ g, Nx.ext g, w, by unfold sRet; simp only [R.bind, k1], q.wk fun _ z => .inl z, (E.ext g).refAt hi⟩
theorem ss_retN (hr : A.any isRef = false := by rfl) : SS A sRetN (some (.rt .non [])) F FB := by
  intro fl e O r M st env E
  cases e
  refine ⟨M, st, Nx.refl, .non, rfl, .non, fun n hn => ?_⟩
  rw [E.noref hr] at hn
  cases hn
theorem ret_seq {m : EX} {n : SX} : sSeq (sRet m) n = sRet m := by
  funext env st
  unfold sSeq sRet
  cases m env st <;> rfl
theorem ss_rq {m : EX} {n : SX} {t : Option (Fw S C)} (h : SS A (sRet m) t F FB) : SS A (sSeq (sRet m) n) t F FB := by
  rw [ret_seq]
  exact h
theorem ss_bk {b : C} (w : Wk A (FB b)) : SS A sBreak (some (.bk b)) F FB := by
  intro fl e O r M st env E
  cases e
  exact ⟨_, st, Nx.weak, env, rfl, E.weak w⟩
theorem ss_ct {b : C} (w : Wk A (FB b)) : SS A sCont (some (.ct b)) F FB := by
  intro fl e O r M st env E
  cases e
  exact ⟨_, st, Nx.weak, env, rfl, E.weak w⟩
theorem ss_bq {n : SX} {t : Option (Fw S C)} (h : SS A sBreak t F FB) : SS A (sSeq sBreak n) t F FB := h
theorem ss_cq {n : SX} {t : Option (Fw S C)} (h : SS A sCont t F FB) : SS A (sSeq sCont n) t F FB := h
def forU {S C : Type} (f : U → S → Option (Fw S S)) : List U → S → Option (Fw S C)
  | [], s => some (.nx s)
  | x :: xs, s => bnd (f x s) fun fl => match fl with
    | .nx s => forU f xs s
    | .ct s => forU f xs s
    | .bk s => some (.nx s)
    | .rt u rs => some (.rt u rs)
theorem for_run {S Q C : Type} {p : Pat} {body : SX} {F : S → List AV} {FB : C → List AV} {tp : U → Option Q} {F1 : S → Q → List AV} {tb : S → Q → Option (Fw S S)} (hp : ∀ s x, PV p (F s) x (tp x) (F1 s)) (hb : ∀ s q, SS (F1 s q) body (tb s q) F F) {us : List U} {src : Src} :
    ∀ (xs : List U) (k N : Nat) (s : S) (fl : Fw S C) (M : Nat → Prop) (st : Sto) (env : Env'), us.drop k = xs → forU (fun x s => bnd (tp x) fun q => tb s q) xs s = some fl → xs.length + 1 ≤ N → EmA O r M st (F s) env → SrcE true (Zs O M) st src us →
      ∃ M' st', Nx r M st M' st' ∧ Out O r M' st' F FB (forM src p body N k env st) fl
  | [], k, N, s, fl, M, st, env, hd, e, hN, E, hs => by
    cases e
    obtain ⟨N, rfl⟩ : ∃ N', N = N' + 1 := ⟨N - 1, by simp at hN; omega⟩
    refine ⟨M, st, Nx.refl, env, ?_, E⟩
    unfold forM
    rw [hs.end_ (drop_nil hd)]
  | x :: xs, k, N, s, fl, M, st, env, hd, e, hN, E, hs => by
    obtain ⟨N, rfl⟩ : ∃ N', N = N' + 1 := ⟨N - 1, by simp at hN; omega⟩
    obtain ⟨f1, e1, e⟩ := bnd_ok e
    obtain ⟨q, e2, e1⟩ := bnd_ok e1
    obtain ⟨hx, hd'⟩ := drop_head hd
    obtain ⟨w, h1, q1⟩ := hs.at_ hx
    obtain ⟨env1, h2, E1⟩ := hp s x q e2 O r M st env w E q1
    obtain ⟨M2, s2, N2, h3⟩ := hb s q f1 e1 O r M st env1 E1
    cases f1 with
    | nx s1 =>
      obtain ⟨env2, h3, E2⟩ := h3
      obtain ⟨M3, s3, N3, h4⟩ := for_run hp hb xs (k + 1) N s1 fl M2 s2 env2 hd' e (by simp at hN; omega) E2 (hs.nx E N2)
      refine ⟨M3, s3, N2.trans N3, ?_⟩
      have : forM src p body (N + 1) k env st = forM src p body N (k + 1) env2 s2 := by
        rw [forM.eq_2, h1]
        simp only []
        rw [h2]
        simp only [h3]
      rw [this]
      exact h4
    | ct s1 =>
      obtain ⟨env2, h3, E2⟩ := h3
      obtain ⟨M3, s3, N3, h4⟩ := for_run hp hb xs (k + 1) N s1 fl M2 s2 env2 hd' e (by simp at hN; omega) E2 (hs.nx E N2)
      refine ⟨M3, s3, N2.trans N3, ?_⟩
      have : forM src p body (N + 1) k env st = forM src p body N (k + 1) env2 s2 := by
        rw [forM.eq_2, h1]
        simp only []
        rw [h2]
        simp only [h3]
      rw [this]
      exact h4
    | bk s1 =>
      cases e
      obtain ⟨env2, h3, E2⟩ := h3
      refine ⟨M2, s2, N2, env2, ?_, E2⟩
      rw [forM.eq_2, h1]
      simp only []
      rw [h2]
      simp only [h3]
    | rt u rs =>
      cases e
      obtain ⟨w, h3, q⟩ := h3
      refine ⟨M2, s2, N2, w, ?_, q⟩
      rw [forM.eq_2, h1]
      simp only []
      rw [h2]
      simp only [h3]
theorem ss_for {Q : Type} {it : IX} {p : Pat} {body : SX} {ti : Option (List U)} {tp : U → Option Q} {F1 : S → Q → List AV} {tb : S → Q → Option (Fw S S)} {s0 : S} (hi : IV true A it ti) (w : Wk A (F s0)) (hp : ∀ s x, PV p (F s) x (tp x) (F1 s)) (hb : ∀ s q, SS (F1 s q) body (tb s q) F F) : SS A (sFor it p body) (bnd ti fun us => forU (fun x s => bnd (tp x) fun q => tb s q) us s0) F FB := by
  intro fl e O r M st env E
  obtain ⟨us, e1, e⟩ := bnd_ok e
  obtain ⟨src, g, h1, hs⟩ := hi us e1 O r M st env E
  have E' := (E.ext g).weak w
  obtain ⟨M', st', N, h2⟩ := for_run (FB := FB) hp hb us 0 _ s0 fl _ _ env rfl e hs.bound E' (hs.nx (E.ext g) Nx.weak)
  refine ⟨M', st', ((Nx.ext g).trans Nx.weak).trans N, ?_⟩
  have : sFor it p body env st = forM src p body (src.bound (st ++ g)) 0 env (st ++ g) := by
    unfold sFor
    simp only [R.bind, h1]
  rw [this]
  exact h2
def whsU {S C : Type} (c : S → Option Bool) (f : S → Option (Fw S S)) : Nat → S → Option (Fw S C)
  | 0, _ => none
  | n + 1, s => bnd (c s) fun b => cond b (bnd (f s) fun fl => match fl with
    | .nx s => whsU c f n s
    | .ct s => whsU c f n s
    | .bk s => some (.nx s)
    | .rt u rs => some (.rt u rs)) (some (.nx s))
theorem whs_run {S C : Type} {c : TX} {body : SX} {F : S → List AV} {FB : C → List AV} {tc : S → Option Bool} {tb : S → Option (Fw S S)} (hc : ∀ s, TV (F s) c (tc s)) (hb : ∀ s, SS (F s) body (tb s) F F) :
    ∀ (N : Nat) (s : S) (fl : Fw S C) (M : Nat → Prop) (st : Sto) (env : Env'), whsU tc tb N s = some fl → EmA O r M st (F s) env →
      ∃ M' st', Nx r M st M' st' ∧ Out O r M' st' F FB (whileM c body N env st) fl
  | 0, s, fl, M, st, env, e, E => by cases e
  | N + 1, s, fl, M, st, env, e, E => by
    obtain ⟨b, e1, e⟩ := bnd_ok e
    obtain ⟨g, h1⟩ := hc s b e1 O r M st env E
    cases b with
    | false =>
      cases e
      refine ⟨M, st ++ g, Nx.ext g, env, ?_, E.ext g⟩
      unfold whileM
      simp only [h1]
    | true =>
      obtain ⟨f1, e2, e⟩ := bnd_ok e
      obtain ⟨M2, s2, N2, h3⟩ := hb s f1 e2 O r M _ env (E.ext g)
      cases f1 with
      | nx s1 =>
        obtain ⟨env2, h3, E2⟩ := h3
        obtain ⟨M3, s3, N3, h4⟩ := whs_run hc hb N s1 fl M2 s2 env2 e E2
        refine ⟨M3, s3, ((Nx.ext g).trans N2).trans N3, ?_⟩
        have : whileM c body (N + 1) env st = whileM c body N env2 s2 := by
          rw [whileM.eq_2, h1]
          simp only [h3]
        rw [this]
        exact h4
      | ct s1 =>
        obtain ⟨env2, h3, E2⟩ := h3
        obtain ⟨M3, s3, N3, h4⟩ := whs_run hc hb N s1 fl M2 s2 env2 e E2
        refine ⟨M3, s3, ((Nx.ext g).trans N2).trans N3, ?_⟩
        have : whileM c body (N + 1) env st = whileM c body N env2 s2 := by
          rw [whileM.eq_2, h1]
          simp only [h3]
        rw [this]
        exact h4
      | bk s1 =>
        cases e
        obtain ⟨env2, h3, E2⟩ := h3
        refine ⟨M2, s2, (Nx.ext g).trans N2, env2, ?_, E2⟩
        rw [whileM.eq_2, h1]
        simp only [h3]
      | rt u rs =>
        cases e
        obtain ⟨w, h3, q⟩ := h3
        refine ⟨M2, s2, (Nx.ext g).trans N2, w, ?_, q⟩
        rw [whileM.eq_2, h1]
        simp only [h3]
theorem ss_while {n : Nat} {c : TX} {body : SX} {tc : S → Option Bool} {tb : S → Option (Fw S S)} {s0 : S} (w : Wk A (F s0)) (hc : ∀ s, TV (F s) c (tc s)) (hb : ∀ s, SS (F s) body (tb s) F F) : SS A (sWhile n c body) (whsU tc tb n s0) F FB := by
  intro fl e O r M st env E
  obtain ⟨M', st', N, h2⟩ := whs_run (FB := FB) hc hb n s0 fl _ _ env e (E.weak w)
  exact ⟨M', st', Nx.weak.trans N, h2⟩

/-! ### defs -/
def FN (f : FX) (P : List U → Option U) : Prop := ∀ us v, P us = some v → ∀ (O : Nat → Prop) (st : Sto) ws, Bd O st → Ems O st us ws → AnsV O st (f ws st) v
/-- the first argument is a list that the def may change -/
def FR (f : FX) (P : List U → List U → Option (List U × U)) : Prop := ∀ xs us xs' v, P xs us = some (xs', v) → ∀ (O : Nat → Prop) (st : Sto) n wx ws, Bd O st → O n → st[n]? = some (.lst wx) → Ems O st xs wx → Ems O st us ws →
  ∃ w st' wx', f (.ls n :: ws) st = .ok w st' ∧ st.length ≤ st'.length ∧ (∀ j, j < st.length → j ≠ n → st'[j]? = st[j]?) ∧ st'[n]? = some (.lst wx') ∧ Ems O st' xs' wx' ∧ Em O st' v w
def noS {S : Type} : S → List AV := fun _ => []
def retO {S C : Type} (t : Option (Fw S C)) : Option U := bnd t fun fl => match fl with
  | .rt u _ => some u
  | .nx _ => some .non
  | _ => none
def retR {S C : Type} (t : Option (Fw S C)) : Option (List U × U) := bnd t fun fl => match fl with
  | .rt u rs => some (rs, u)
  | _ => none
theorem avs_get : ∀ (us : List U) (k i : Nat) (a : AV), (us.map AV.val ++ List.replicate k .no)[i]? = some a → (∃ u, us[i]? = some u ∧ a = .val u) ∨ a = .no
  | [], k, i, a, h => by
    rw [List.map_nil, List.nil_append, List.getElem?_replicate] at h
    split at h
    · cases h; exact .inr rfl
    · cases h
  | u :: us, k, 0, a, h => by
    simp at h
    exact .inl ⟨u, rfl, h.symm⟩
  | u :: us, k, i + 1, a, h => by
    simp at h
    rcases avs_get us k i a (by simpa using h) with ⟨v, h1, h2⟩ | h
    · exact .inl ⟨v, by simpa using h1, h2⟩
    · exact .inr h
theorem env_get : ∀ (ws : List W) (k i : Nat) (w : W), ws[i]? = some w → (ws.map some ++ List.replicate k none)[i]? = some (some w) := by
  intro ws k i w h
  have hi : i < ws.length := (List.getElem?_eq_some_iff.mp h).1
  rw [List.getElem?_append_left (by simpa using hi), List.getElem?_map, h]
  rfl
theorem start {us : List U} {ws : List W} (hO : Bd O st) (h : Ems O st us ws) (k : Nat) : EmA O none (fun _ => False) st (us.map AV.val ++ List.replicate k .no) (ws.map some ++ List.replicate k none) where
  len := by simp [h.length]
  bO := hO
  bM := fun _ z => z.elim
  rO := fun _ z => by cases z
  hr := fun _ z => by cases z
  at_ := fun i a e => by
    rcases avs_get us k i a e with ⟨u, h1, rfl⟩ | rfl
    · obtain ⟨w, h2, h3⟩ := h.get h1
      exact ⟨w, env_get ws k i w h2, h3.wk fun _ z => z.elim id False.elim⟩
    · trivial
  inj := fun i j b us' c vs n h1 => by
    rcases avs_get us k i _ h1 with ⟨u, _, z⟩ | z <;> cases z
theorem nx_ext {st st' : Sto} {M' : Nat → Prop} (N : Nx none (fun _ => False) st M' st') : ∃ g, st' = st ++ g := by
  refine ⟨st'.drop st.length, ?_⟩
  refine List.ext_getElem? fun i => ?_
  by_cases hi : i < st.length
  · rw [List.getElem?_append_left hi]
    exact N.fr i hi (by intro z; cases z) id
  · rw [List.getElem?_append_right (by omega), List.getElem?_drop]
    congr 1
    omega
theorem fn_mk {nN np : Nat} {body : SX} {P : List U → Option U} {tb : List U → Option (Fw S C)} (hb : ∀ us, us.length = np → SS (us.map AV.val ++ List.replicate (nN - np) .no) body (tb us) F FB) (hP : ∀ us v, P us = some v → us.length = np ∧ retO (tb us) = some v) : FN (mkFn nN np body) P := by
  intro us v e O st ws hO h
  obtain ⟨hl, e⟩ := hP us v e
  obtain ⟨fl, e1, e⟩ := bnd_ok e
  obtain ⟨M', st', N, h1⟩ := hb us hl fl e1 O none _ st _ (start hO h (nN - np))
  obtain ⟨g, rfl⟩ := nx_ext N
  have hw : ws.length = np := by rw [← h.length]; exact hl
  unfold mkFn
  rw [if_pos hw]
  cases fl with
  | rt u rs =>
    cases e
    obtain ⟨w, h1, q, _⟩ := h1
    exact ⟨w, g, by rw [h1], q⟩
  | nx s =>
    cases e
    obtain ⟨env', h1, _⟩ := h1
    exact ⟨.non, g, by rw [h1], .non⟩
  | bk _ => cases e
  | ct _ => cases e
def ap0 (p : Option U) : List U → Option U
  | [] => p
  | _ => none
def ap1 (p : U → Option U) : List U → Option U
  | [a] => p a
  | _ => none
def ap2 (p : U → U → Option U) : List U → Option U
  | [a, b] => p a b
  | _ => none
def ap3 (p : U → U → U → Option U) : List U → Option U
  | [a, b, c] => p a b c
  | _ => none
def ap4 (p : U → U → U → U → Option U) : List U → Option U
  | [a, b, c, d] => p a b c d
  | _ => none
def ap5 (p : U → U → U → U → U → Option U) : List U → Option U
  | [a, b, c, d, e] => p a b c d e
  | _ => none
theorem fn_mk0 {nN : Nat} {body : SX} {tb : Option (Fw S C)} (hb : SS (List.replicate nN .no) body tb F FB) : FN (mkFn nN 0 body) (ap0 (retO tb)) :=
  fn_mk (tb := fun _ => tb) (F := F) (FB := FB) (fun us hl => by match us, hl with | [], _ => exact hb) fun us v e => by match us, e with | [], e => exact ⟨rfl, e⟩
theorem fn_mk1 {nN : Nat} {body : SX} {tb : U → Option (Fw S C)} (hb : ∀ a, SS (.val a :: List.replicate (nN - 1) .no) body (tb a) F FB) : FN (mkFn nN 1 body) (ap1 fun a => retO (tb a)) :=
  fn_mk (tb := fun us => match us with | [a] => tb a | _ => none) (F := F) (FB := FB) (fun us hl => by match us, hl with | [a], _ => exact hb a) fun us v e => by match us, e with | [a], e => exact ⟨rfl, e⟩
theorem fn_mk2 {nN : Nat} {body : SX} {tb : U → U → Option (Fw S C)} (hb : ∀ a b, SS (.val a :: .val b :: List.replicate (nN - 2) .no) body (tb a b) F FB) : FN (mkFn nN 2 body) (ap2 fun a b => retO (tb a b)) :=
  fn_mk (tb := fun us => match us with | [a, b] => tb a b | _ => none) (F := F) (FB := FB) (fun us hl => by match us, hl with | [a, b], _ => exact hb a b) fun us v e => by match us, e with | [a, b], e => exact ⟨rfl, e⟩
theorem fn_mk3 {nN : Nat} {body : SX} {tb : U → U → U → Option (Fw S C)} (hb : ∀ a b c, SS (.val a :: .val b :: .val c :: List.replicate (nN - 3) .no) body (tb a b c) F FB) : FN (mkFn nN 3 body) (ap3 fun a b c => retO (tb a b c)) :=
  fn_mk (tb := fun us => match us with | [a, b, c] => tb a b c | _ => none) (F := F) (FB := FB) (fun us hl => by match us, hl with | [a, b, c], _ => exact hb a b c) fun us v e => by match us, e with | [a, b, c], e => exact ⟨rfl, e⟩
theorem fn_mk4 {nN : Nat} {body : SX} {tb : U → U → U → U → Option (Fw S C)} (hb : ∀ a b c d, SS (.val a :: .val b :: .val c :: .val d :: List.replicate (nN - 4) .no) body (tb a b c d) F FB) : FN (mkFn nN 4 body) (ap4 fun a b c d => retO (tb a b c d)) :=
  fn_mk (tb := fun us => match us with | [a, b, c, d] => tb a b c d | _ => none) (F := F) (FB := FB) (fun us hl => by match us, hl with | [a, b, c, d], _ => exact hb a b c d) fun us v e => by match us, e with | [a, b, c, d], e => exact ⟨rfl, e⟩
theorem fn_mk5 {nN : Nat} {body : SX} {tb : U → U → U → U → U → Option (Fw S C)} (hb : ∀ a b c d e, SS (.val a :: .val b :: .val c :: .val d :: .val e :: List.replicate (nN - 5) .no) body (tb a b c d e) F FB) : FN (mkFn nN 5 body) (ap5 fun a b c d e => retO (tb a b c d e)) :=
  fn_mk (tb := fun us => match us with | [a, b, c, d, f] => tb a b c d f | _ => none) (F := F) (FB := FB) (fun us hl => by match us, hl with | [a, b, c, d, f], _ => exact hb a b c d f) fun us v e => by match us, e with | [a, b, c, d, f], e => exact ⟨rfl, e⟩

/-! ### calls -/
theorem lows_em {Z : Nat → Prop} {us : List U} {ws : List W} (h : Ems Z st us ws) (hl : W.lows 0 ws = true) (Z' : Nat → Prop) (st' : Sto) : Ems Z' st' us ws := h.low hl
theorem pureR_em {rr : R W} {v : U} (hO : Bd O st) (h : AnsV (fun _ => False) [] rr v) : AnsV O st (pureR st rr) v := by
  obtain ⟨w, g, rfl, q⟩ := h
  simp only [List.nil_append] at q ⊢
  unfold pureR
  simp only []
  by_cases hw : w.low 0 = true
  · rw [if_pos hw]
    exact .here rfl (q.low hw)
  · rw [if_neg hw]
    have hz : ∀ n, O (st.length + n) → False := fun n z => by have := hO _ z; omega
    cases w with
    | ls n =>
      obtain ⟨us, ws, e, hs, r⟩ : ∃ us ws, v = .lst us ∧ g[n]? = some (.lst ws) ∧ Ems (fun _ => False) g us ws := by
        cases q with
        | lst h e r => exact ⟨_, _, rfl, e, r⟩
      subst e
      simp only [hs]
      by_cases hl : W.lows 0 ws = true
      · rw [if_pos hl]
        exact ⟨.ls st.length, [.lst ws], rfl, .lst (fun z => by have := hO _ z; omega) (by simp) (r.low hl)⟩
      · rw [if_neg hl]
        exact ⟨_, _, rfl, (Em.lst (fun z => z) hs r : Em (fun _ => False) g (.lst us) (.ls n)).up hz⟩
    | _ => exact ⟨_, _, rfl, q.up hz⟩
theorem trimR_em {rr : R W} {v : U} (hO : Bd O st) (h : AnsV O st rr v) : AnsV O st (trimR st.length rr) v := by
  obtain ⟨w, g, rfl, q⟩ := h
  have ht : (st ++ g).take st.length = st := by simp
  unfold trimR
  simp only [ht]
  by_cases hs : st.all (Ob.low st.length) = true
  · rw [if_pos hs]
    by_cases hw : w.low st.length = true
    · rw [if_pos hw]
      exact .here rfl (q.cut hs hw)
    · rw [if_neg hw]
      cases w with
      | ls n =>
        obtain ⟨us, ws, e, hn, hs2, r⟩ : ∃ us ws, v = .lst us ∧ ¬ O n ∧ (st ++ g)[n]? = some (.lst ws) ∧ Ems O (st ++ g) us ws := by
          cases q with
          | lst h e r => exact ⟨_, _, rfl, h, e, r⟩
        subst e
        simp only [hs2]
        by_cases hl : W.lows st.length ws = true
        · rw [if_pos hl]
          exact ⟨.ls st.length, [.lst ws], rfl, .lst (fun z => by have := hO _ z; omega) (by simp) ((r.cut hs hl).ext _)⟩
        · rw [if_neg hl]
          exact ⟨_, g, rfl, .lst hn hs2 r⟩
      | _ => exact ⟨_, g, rfl, q⟩
  · rw [if_neg hs]
    exact ⟨w, g, rfl, q⟩
theorem fn_call {f : FX} {P : List U → Option U} (h : FN f P) : FN (callM f) P := by
  intro us v e O st ws hO r
  unfold callM
  by_cases hl : W.lows 0 ws = true
  · rw [if_pos hl]
    exact pureR_em hO (h us v e (fun _ => False) [] ws (fun n z => z.elim) (r.low hl))
  · rw [if_neg hl]
    exact trimR_em hO (h us v e O st ws hO r)
theorem ev_callA {f : FX} {P : List U → Option U} {m : AX} {t : Option (List U)} (h : FN f P) (ha : EA A m t) : EV A (eCall (callM f) m) (bnd t P) := by
  intro u e O r M st env E
  obtain ⟨us, e1, e⟩ := bnd_ok e
  obtain ⟨ws, g, k1, q⟩ := ha us e1 O r M st env E
  have := fn_call h us u e (Zs O M) (st ++ g) ws (E.ext g).bd q
  unfold eCall
  simp only [R.bind, k1]
  exact EmB.ans this
theorem ev_call0 {f : FX} {p : Option U} (h : FN f (ap0 p)) : EV A (eCall (callM f) aNil) p := ev_cast (ev_callA h ea_nil) rfl
theorem ev_call1 {f : FX} {p : U → Option U} {m1 : EX} {t1 : Option U} (h : FN f (ap1 p)) (h1 : EV A m1 t1) : EV A (eCall (callM f) (aCons m1 aNil)) (bnd t1 p) := ev_cast (ev_callA h (ea_cons h1 ea_nil)) (by cases t1 <;> rfl)
theorem ev_call2 {f : FX} {p : U → U → Option U} {m1 m2 : EX} {t1 t2 : Option U} (h : FN f (ap2 p)) (h1 : EV A m1 t1) (h2 : EV A m2 t2) : EV A (eCall (callM f) (aCons m1 (aCons m2 aNil))) (bnd t1 fun a => bnd t2 fun b => p a b) := ev_cast (ev_callA h (ea_cons h1 (ea_cons h2 ea_nil))) (by cases t1 <;> cases t2 <;> rfl)
theorem ev_call3 {f : FX} {p : U → U → U → Option U} {m1 m2 m3 : EX} {t1 t2 t3 : Option U} (h : FN f (ap3 p)) (h1 : EV A m1 t1) (h2 : EV A m2 t2) (h3 : EV A m3 t3) : EV A (eCall (callM f) (aCons m1 (aCons m2 (aCons m3 aNil)))) (bnd t1 fun a => bnd t2 fun b => bnd t3 fun c => p a b c) := ev_cast (ev_callA h (ea_cons h1 (ea_cons h2 (ea_cons h3 ea_nil)))) (by cases t1 <;> cases t2 <;> cases t3 <;> rfl)
theorem ev_call4 {f : FX} {p : U → U → U → U → Option U} {m1 m2 m3 m4 : EX} {t1 t2 t3 t4 : Option U} (h : FN f (ap4 p)) (h1 : EV A m1 t1) (h2 : EV A m2 t2) (h3 : EV A m3 t3) (h4 : EV A m4 t4) : EV A (eCall (callM f) (aCons m1 (aCons m2 (aCons m3 (aCons m4 aNil))))) (bnd t1 fun a => bnd t2 fun b => bnd t3 fun c => bnd t4 fun d => p a b c d) := ev_cast (ev_callA h (ea_cons h1 (ea_cons h2 (ea_cons h3 (ea_cons h4 ea_nil))))) (by cases t1 <;> cases t2 <;> cases t3 <;> cases t4 <;> rfl)
theorem ev_call5 {f : FX} {p : U → U → U → U → U → Option U} {m1 m2 m3 m4 m5 : EX} {t1 t2 t3 t4 t5 : Option U} (h : FN f (ap5 p)) (h1 : EV A m1 t1) (h2 : EV A m2 t2) (h3 : EV A m3 t3) (h4 : EV A m4 t4) (h5 : EV A m5 t5) : EV A (eCall (callM f) (aCons m1 (aCons m2 (aCons m3 (aCons m4 (aCons m5 aNil)))))) (bnd t1 fun a => bnd t2 fun b => bnd t3 fun c => bnd t4 fun d => bnd t5 fun e => p a b c d e) := ev_cast (ev_callA h (ea_cons h1 (ea_cons h2 (ea_cons h3 (ea_cons h4 (ea_cons h5 ea_nil)))))) (by cases t1 <;> cases t2 <;> cases t3 <;> cases t4 <;> cases t5 <;> rfl)
end
end
end Rx

/-! UxF: rules: expressions that change a list of the def's own or of the caller's. -/
namespace Rx
open PySem PySem.Spec PyProof.Rows L2
noncomputable section
section
variable {A B : List AV} {O M M' : Nat → Prop} {r : Option Nat} {st st' : Sto} {env : Env'}
def EE {S : Type} (A : List AV) (m : EX) (t : Option (S × U)) (F : S → List AV) : Prop := ∀ s u, t = some (s, u) → ∀ O r M st env, EmA O r M st A env → ∃ M' st' w, m env st = .ok w st' ∧ Nx r M st M' st' ∧ EmA O r M' st' (F s) env ∧ Em (Zs O M') st' u w
def EEA {S : Type} (A : List AV) (m : AX) (t : Option (S × List U)) (F : S → List AV) : Prop := ∀ s us, t = some (s, us) → ∀ O r M st env, EmA O r M st A env → ∃ M' st' ws, m env st = .ok ws st' ∧ Nx r M st M' st' ∧ EmA O r M' st' (F s) env ∧ Ems (Zs O M') st' us ws
def TE {S : Type} (A : List AV) (m : TX) (t : Option (S × Bool)) (F : S → List AV) : Prop := ∀ s b, t = some (s, b) → ∀ O r M st env, EmA O r M st A env → ∃ M' st', m env st = .ok b st' ∧ Nx r M st M' st' ∧ EmA O r M' st' (F s) env
def IE {S : Type} (A : List AV) (m : IX) (t : Option (S × List U)) (F : S → List AV) : Prop := ∀ s us, t = some (s, us) → ∀ O r M st env, EmA O r M st A env → ∃ M' st' src, m env st = .ok src st' ∧ Nx r M st M' st' ∧ EmA O r M' st' (F s) env ∧ SrcE true (Zs O M') st' src us
variable {S : Type} {F : S → List AV} {s : S} {m ma mb : EX}
theorem ee_ev {t : Option U} (h : EV (F s) m t) : EE (F s) m (bnd t fun u => some (s, u)) F := by
  intro s' u e O r M st env E
  obtain ⟨u', e1, e⟩ := bnd_ok e
  cases e
  obtain ⟨w, g, k1, q⟩ := h u e1 O r M st env E
  exact ⟨M, st ++ g, w, k1, Nx.ext g, E.ext g, q⟩
theorem eea_nil : EEA (F s) aNil (some (s, [])) F := by
  intro s' u e O r M st env E
  cases e
  exact ⟨M, st, [], rfl, Nx.refl, E, .nil⟩
theorem eea_cons {n : AX} {t : Option (S × U)} {k : S → Option (S × List U)} (h : EE A m t F) (h2 : ∀ s, EEA (F s) n (k s) F) : EEA A (aCons m n) (bnd t fun x => bnd (k x.1) fun y => some (y.1, x.2 :: y.2)) F := by
  intro s' us e O r M st env E
  obtain ⟨⟨s1, u⟩, e1, e⟩ := bnd_ok e
  obtain ⟨⟨s2, vs⟩, e2, e⟩ := bnd_ok e
  cases e
  obtain ⟨M1, st1, w, k1, N1, E1, q1⟩ := h s1 u e1 O r M st env E
  obtain ⟨M2, st2, ws, k2, N2, E2, q2⟩ := h2 s1 _ vs e2 O r M1 st1 env E1
  refine ⟨M2, st2, w :: ws, ?_, N1.trans N2, E2, .cons (Nx.keep E1 N2 q1) q2⟩
  unfold aCons
  simp only [R.bind, k1, k2]
/-- arguments that change nothing -/
theorem eea_of {n : AX} {t : Option (List U)} (h : EA (F s) n t) : EEA (F s) n (bnd t fun us => some (s, us)) F := by
  intro s' us e O r M st env E
  obtain ⟨us', e1, e⟩ := bnd_ok e
  cases e
  obtain ⟨ws, g, k1, q⟩ := h us e1 O r M st env E
  exact ⟨M, st ++ g, ws, k1, Nx.ext g, E.ext g, q⟩
theorem AnsV.nx {rr : R W} {u : U} {Z : Nat → Prop} (h : AnsV Z st rr u) : ∃ w g, rr = .ok w (st ++ g) ∧ Em Z (st ++ g) u w := h
theorem ee_bin {f : W → W → Sto → R W} {p : U → U → Option U} {ta : Option (S × U)} {tb : S → Option (S × U)} (hp : OP2 f p) (ha : EE A ma ta F) (hb : ∀ s, EE (F s) mb (tb s) F) : EE A (eBin f ma mb) (bnd ta fun x => bnd (tb x.1) fun y => bnd (p x.2 y.2) fun u => some (y.1, u)) F := by
  intro s' u e O r M st env E
  obtain ⟨⟨s1, a⟩, e1, e⟩ := bnd_ok e
  obtain ⟨⟨s2, b⟩, e2, e⟩ := bnd_ok e
  obtain ⟨v, e3, e⟩ := bnd_ok e
  cases e
  obtain ⟨M1, st1, wa, k1, N1, E1, q1⟩ := ha s1 a e1 O r M st env E
  obtain ⟨M2, st2, wb, k2, N2, E2, q2⟩ := hb s1 _ b e2 O r M1 st1 env E1
  obtain ⟨w, g, k3, q3⟩ := hp a b u e3 (Zs O M2) st2 wa wb E2.bd (Nx.keep E1 N2 q1).b q2.b
  refine ⟨M2, st2 ++ g, w, ?_, (N1.trans N2).trans (Nx.ext g), E2.ext g, q3⟩
  unfold eBin
  simp only [R.bind, k1, k2, k3]
theorem te_cmp {f : W → W → Sto → R W} {p : U → U → Option Bool} {ta : Option (S × U)} {tb : S → Option (S × U)} (hp : OPB f p) (ha : EE A ma ta F) (hb : ∀ s, EE (F s) mb (tb s) F) : TE A (tBl (eBin f ma mb)) (bnd ta fun x => bnd (tb x.1) fun y => bnd (p x.2 y.2) fun u => some (y.1, u)) F := by
  intro s' u e O r M st env E
  obtain ⟨⟨s1, a⟩, e1, e⟩ := bnd_ok e
  obtain ⟨⟨s2, b⟩, e2, e⟩ := bnd_ok e
  obtain ⟨v, e3, e⟩ := bnd_ok e
  cases e
  obtain ⟨M1, st1, wa, k1, N1, E1, q1⟩ := ha s1 a e1 O r M st env E
  obtain ⟨M2, st2, wb, k2, N2, E2, q2⟩ := hb s1 _ b e2 O r M1 st1 env E1
  have k3 := hp a b u e3 (Zs O M2) st2 wa wb (Nx.keep E1 N2 q1).b q2.b
  refine ⟨M2, st2, ?_, N1.trans N2, E2⟩
  unfold tBl eBin
  simp only [R.bind, k1, k2, k3]
theorem te_tv {n : TX} {t : Option Bool} (h : TV (F s) n t) : TE (F s) n (bnd t fun b => some (s, b)) F := by
  intro s' u e O r M st env E
  obtain ⟨b, e1, e⟩ := bnd_ok e
  cases e
  obtain ⟨g, k1⟩ := h u e1 O r M st env E
  exact ⟨M, st ++ g, k1, Nx.ext g, E.ext g⟩
theorem te_or {n n2 : TX} {t : Option (S × Bool)} {k : S → Option (S × Bool)} (h : TE A n t F) (h2 : ∀ s, TE (F s) n2 (k s) F) : TE A (tOrM n n2) (bnd t fun x => cond x.2 (some (x.1, true)) (k x.1)) F := by
  intro s' u e O r M st env E
  obtain ⟨⟨s1, b⟩, e1, e⟩ := bnd_ok e
  obtain ⟨M1, st1, k1, N1, E1⟩ := h s1 b e1 O r M st env E
  cases b with
  | true =>
    cases e
    exact ⟨M1, st1, by unfold tOrM; simp only [R.bind, k1, if_true], N1, E1⟩
  | false =>
    obtain ⟨M2, st2, k2, N2, E2⟩ := h2 s1 s' u e O r M1 st1 env E1
    exact ⟨M2, st2, by unfold tOrM; simp only [R.bind, k1, Bool.false_eq_true, if_false, k2], N1.trans N2, E2⟩
theorem te_and {n n2 : TX} {t : Option (S × Bool)} {k : S → Option (S × Bool)} (h : TE A n t F) (h2 : ∀ s, TE (F s) n2 (k s) F) : TE A (tAndM n n2) (bnd t fun x => cond x.2 (k x.1) (some (x.1, false))) F := by
  intro s' u e O r M st env E
  obtain ⟨⟨s1, b⟩, e1, e⟩ := bnd_ok e
  obtain ⟨M1, st1, k1, N1, E1⟩ := h s1 b e1 O r M st env E
  cases b with
  | false =>
    cases e
    exact ⟨M1, st1, by unfold tAndM; simp only [R.bind, k1, Bool.false_eq_true, if_false], N1, E1⟩
  | true =>
    obtain ⟨M2, st2, k2, N2, E2⟩ := h2 s1 s' u e O r M1 st1 env E1
    exact ⟨M2, st2, by unfold tAndM; simp only [R.bind, k1, if_true, k2], N1.trans N2, E2⟩
theorem ee_if {n : TX} {tc : Option (S × Bool)} {ta tb : S → Option (S × U)} (h : TE A n tc F) (ha : ∀ s, EE (F s) ma (ta s) F) (hb : ∀ s, EE (F s) mb (tb s) F) : EE A (eIf n ma mb) (bnd tc fun x => cond x.2 (ta x.1) (tb x.1)) F := by
  intro s' u e O r M st env E
  obtain ⟨⟨s1, b⟩, e1, e⟩ := bnd_ok e
  obtain ⟨M1, st1, k1, N1, E1⟩ := h s1 b e1 O r M st env E
  cases b with
  | true =>
    obtain ⟨M2, st2, w, k2, N2, E2, q⟩ := ha s1 s' u e O r M1 st1 env E1
    exact ⟨M2, st2, w, by unfold eIf; simp only [R.bind, k1, if_true, k2], N1.trans N2, E2, q⟩
  | false =>
    obtain ⟨M2, st2, w, k2, N2, E2, q⟩ := hb s1 s' u e O r M1 st1 env E1
    exact ⟨M2, st2, w, by unfold eIf; simp only [R.bind, k1, Bool.false_eq_true, if_false, k2], N1.trans N2, E2, q⟩
theorem ee_f1 {f : W → Sto → R W} {p : U → Option U} {t : Option (S × U)} (hp : OP1 f p) (ha : EE A ma t F) : EE A (eCall (f1 f) (aCons ma aNil)) (bnd t fun x => bnd (p x.2) fun u => some (x.1, u)) F := by
  intro s' u e O r M st env E
  obtain ⟨⟨s1, a⟩, e1, e⟩ := bnd_ok e
  obtain ⟨v, e3, e⟩ := bnd_ok e
  cases e
  obtain ⟨M1, st1, wa, k1, N1, E1, q1⟩ := ha _ a e1 O r M st env E
  obtain ⟨w, g, k3, q3⟩ := hp a u e3 (Zs O M1) st1 wa E1.bd q1.b
  refine ⟨M1, st1 ++ g, w, ?_, N1.trans (Nx.ext g), E1.ext g, q3⟩
  unfold eCall aCons aNil f1
  simp only [R.bind, k1, k3]
theorem ee_un {f : W → Sto → R W} {p : U → Option U} {t : Option (S × U)} (hp : OP1 f p) (ha : EE A ma t F) : EE A (eUn f ma) (bnd t fun x => bnd (p x.2) fun u => some (x.1, u)) F := by
  intro s' u e O r M st env E
  obtain ⟨⟨s1, a⟩, e1, e⟩ := bnd_ok e
  obtain ⟨v, e3, e⟩ := bnd_ok e
  cases e
  obtain ⟨M1, st1, wa, k1, N1, E1, q1⟩ := ha _ a e1 O r M st env E
  obtain ⟨w, g, k3, q3⟩ := hp a u e3 (Zs O M1) st1 wa E1.bd q1.b
  refine ⟨M1, st1 ++ g, w, ?_, N1.trans (Nx.ext g), E1.ext g, q3⟩
  unfold eUn
  simp only [R.bind, k1, k3]
theorem ee_tup {n : AX} {t : Option (S × List U)} (h : EEA A n t F) : EE A (eTup n) (bnd t fun x => cond (len5 x.2.length) (some (x.1, .tup x.2)) none) F := by
  intro s' u e O r M st env E
  obtain ⟨⟨s1, us⟩, e1, e⟩ := bnd_ok e
  obtain ⟨hl, e⟩ := cond_so e
  cases e
  obtain ⟨M1, st1, ws, k1, N1, E1, q⟩ := h _ us e1 O r M st env E
  refine ⟨M1, st1, .tup ws, ?_, N1, E1, .tup q⟩
  unfold eTup
  simp only [R.bind, k1]
  rw [if_pos (by rw [q.len]; exact len5_le hl)]
theorem ee_lst {n : AX} {t : Option (S × List U)} (h : EEA A n t F) : EE A (eLst n) (bnd t fun x => cond (len5 x.2.length) (some (x.1, .lst x.2)) none) F := by
  intro s' u e O r M st env E
  obtain ⟨⟨s1, us⟩, e1, e⟩ := bnd_ok e
  obtain ⟨hl, e⟩ := cond_so e
  cases e
  obtain ⟨M1, st1, ws, k1, N1, E1, q⟩ := h _ us e1 O r M st env E
  refine ⟨M1, st1 ++ [.lst ws], .ls st1.length, ?_, N1.trans (Nx.ext _), E1.ext _, .lst (fun z => by have := E1.bd _ z; omega) (by simp) (q.ext _)⟩
  unfold eLst
  simp only [R.bind, k1]
  rw [if_pos (by rw [q.len]; exact len5_le hl)]
theorem ee_call {f : FX} {P : List U → Option U} {n : AX} {t : Option (S × List U)} (h : FN f P) (ha : EEA A n t F) : EE A (eCall (callM f) n) (bnd t fun x => bnd (P x.2) fun u => some (x.1, u)) F := by
  intro s' u e O r M st env E
  obtain ⟨⟨s1, us⟩, e1, e⟩ := bnd_ok e
  obtain ⟨v, e3, e⟩ := bnd_ok e
  cases e
  obtain ⟨M1, st1, ws, k1, N1, E1, q1⟩ := ha _ us e1 O r M st env E
  obtain ⟨w, g, k3, q3⟩ := fn_call h us u e3 (Zs O M1) st1 ws E1.bd q1
  refine ⟨M1, st1 ++ g, w, ?_, N1.trans (Nx.ext g), E1.ext g, q3⟩
  unfold eCall
  simp only [R.bind, k1, k3]

/-! ### a call that changes a list -/
theorem trim_gen {s2 : Sto} {L : Nat} {v : U} {w : W} {n : Nat} {xs : List U} {wx : List W} (hO : ∀ n, O n → n < L) (hL : L ≤ s2.length) (hn : n < L) (hx : s2[n]? = some (.lst wx)) (rx : Ems O s2 xs wx) (q : Em O s2 v w) :
    ∃ w' s3, trimR L (.ok w s2) = .ok w' s3 ∧ L ≤ s3.length ∧ (∀ j, j < L → s3[j]? = s2[j]?) ∧ Ems O s3 xs wx ∧ Em O s3 v w' := by
  have hl : (s2.take L).length = L := by rw [List.length_take]; omega
  have hs2 : s2.take L ++ s2.drop L = s2 := List.take_append_drop L s2
  have hget : ∀ j, j < L → (s2.take L)[j]? = s2[j]? := fun j hj => by rw [List.getElem?_take, if_pos hj]
  unfold trimR
  simp only []
  by_cases hs : (s2.take L).all (Ob.low L) = true
  · rw [if_pos hs]
    have hs' : (s2.take L).all (Ob.low (s2.take L).length) = true := by rw [hl]; exact hs
    have lx : W.lows L wx = true := List.all_eq_true.mp hs _ (List.mem_of_getElem? ((hget n hn).trans hx))
    have rx' : Ems O (s2.take L) xs wx := by
      rw [← hs2] at rx
      exact rx.cut hs' (by rw [hl]; exact lx)
    by_cases hw : w.low L = true
    · rw [if_pos hw]
      refine ⟨w, _, rfl, by omega, hget, rx', ?_⟩
      rw [← hs2] at q
      exact q.cut hs' (by rw [hl]; exact hw)
    · rw [if_neg hw]
      cases w with
      | ls k =>
        obtain ⟨us, ws, e, hk, hs3, r3⟩ : ∃ us ws, v = .lst us ∧ ¬ O k ∧ s2[k]? = some (.lst ws) ∧ Ems O s2 us ws := by
          cases q with
          | lst h e r => exact ⟨_, _, rfl, h, e, r⟩
        subst e
        simp only [hs3]
        by_cases hl2 : W.lows L ws = true
        · rw [if_pos hl2]
          refine ⟨.ls L, _, rfl, by simp; omega, fun j hj => ?_, rx'.ext _, ?_⟩
          · rw [List.getElem?_append_left (by omega)]; exact hget j hj
          · refine .lst (fun z => by have := hO _ z; omega) ?_ ?_ (ws := ws)
            · rw [List.getElem?_append_right (by omega), hl]; simp
            · rw [← hs2] at r3
              exact (r3.cut hs' (by rw [hl]; exact hl2)).ext _
        · rw [if_neg hl2]
          exact ⟨_, s2, rfl, hL, fun _ _ => rfl, rx, .lst hk hs3 r3⟩
      | _ => exact ⟨_, s2, rfl, hL, fun _ _ => rfl, rx, q⟩
  · rw [if_neg hs]
    exact ⟨w, s2, rfl, hL, fun _ _ => rfl, rx, q⟩
/-- another object of the store changed at a place of the def's own -/
theorem EmA.putN (E : EmA O r M st A env) {i n : Nat} {b : Bool} {us us' : List U} {ws' : List W} {s2 : Sto} (hi : A[i]? = some (.own b us)) (he : env[i]? = some (some (.ls n))) (hl : st.length ≤ s2.length) (hf : ∀ j, j < st.length → j ≠ n → s2[j]? = st[j]?) (hx : s2[n]? = some (.lst ws')) (h : Ems (Zs O M) s2 us' ws') : EmA O r M s2 (A.set i (.own b us')) env := by
  obtain ⟨n', ws, e1, o, s, q⟩ := E.own hi
  rw [he] at e1
  cases e1
  have hn := lt_of_get s
  have hZ : Zs O M n := by
    cases b with
    | true => exact .inl (E.rO n o)
    | false => exact .inr o
  have hs : ∀ m, m < st.length → ¬ Zs O M m → s2[m]? = st[m]? := fun m hm z => hf m hm (by rintro rfl; exact z hZ)
  have hl2 : i < A.length := by
    by_cases hl : i < A.length
    · exact hl
    · rw [List.getElem?_eq_none (by omega)] at hi; cases hi
  have back : ∀ {l : Nat} {c : Bool} {xs : List U}, (A.set i (.own b us'))[l]? = some (.own c xs) → ∃ ys, A[l]? = some (.own c ys) := by
    intro l c xs q
    by_cases hj : i = l
    · subst hj
      rw [List.getElem?_set_self hl2] at q
      cases q
      exact ⟨us, hi⟩
    · rw [List.getElem?_set_ne hj] at q
      exact ⟨xs, q⟩
  exact {
    len := by simp [E.len]
    bO := fun j h => Nat.lt_of_lt_of_le (E.bO j h) hl
    bM := fun j h => ⟨Nat.lt_of_lt_of_le (E.bM j h).1 hl, (E.bM j h).2⟩
    rO := E.rO
    hr := fun m e => by
      obtain ⟨j, vs, hj⟩ := E.hr m e
      by_cases h' : i = j
      · subst h'
        rw [hi] at hj
        cases hj
        exact ⟨i, us', List.getElem?_set_self hl2⟩
      · exact ⟨j, vs, by rw [List.getElem?_set_ne h']; exact hj⟩
    at_ := fun j a e => by
      by_cases hj : i = j
      · subst hj
        rw [List.getElem?_set_self hl2] at e
        cases e
        exact ⟨n, ws', he, o, hx, h⟩
      · rw [List.getElem?_set_ne hj] at e
        have := E.at_ j a e
        cases a with
        | no => trivial
        | val u => obtain ⟨w, e, q⟩ := this; exact ⟨w, e, q.step (fun _ _ z => z) hs⟩
        | own c vs =>
          obtain ⟨k, xs, e2, o2, s3, q2⟩ := this
          refine ⟨k, xs, e2, o2, ?_, q2.step (fun _ _ z => z) hs⟩
          rw [hf k (lt_of_get s3)]
          · exact s3
          · rintro rfl
            exact hj (E.inj i j b us c vs _ hi e he e2)
    inj := fun j k c xs d vs m h1 h2 h3 h4 => by
      obtain ⟨y1, q1⟩ := back h1
      obtain ⟨y2, q2⟩ := back h2
      exact E.inj j k c y1 d y2 m q1 q2 h3 h4 }
theorem ee_callR {f : FX} {P : List U → List U → Option (List U × U)} {n : AX} {t : Option (S × List U)} {i : Nat} {b : Bool} {c : S → List U} {up : S → List U → S} (h : FR f P) (h0 : ∃ us, A[i]? = some (.own b us)) (h1 : ∀ s, (F s)[i]? = some (.own b (c s))) (h2 : ∀ s us, (F s).set i (.own b us) = F (up s us)) (ha : EEA A n t F) :
    EE A (eCall (callM f) (aCons (evar i) n)) (bnd t fun x => bnd (P (c x.1) x.2) fun y => some (up x.1 y.1, y.2)) F := by
  intro s' u e O r M st env E
  obtain ⟨⟨s1, us⟩, e1, e⟩ := bnd_ok e
  obtain ⟨⟨xs', v⟩, e3, e⟩ := bnd_ok e
  cases e
  obtain ⟨us0, h0⟩ := h0
  obtain ⟨k0, ws0, e0, _, _, _⟩ := E.own h0
  obtain ⟨M1, st1, ws, k1, N1, E1, q1⟩ := ha s1 us e1 O r M st env E
  obtain ⟨n0, wx, e4, o4, s4, q4⟩ := E1.own (h1 s1)
  rw [e0] at e4
  cases e4
  have hn := lt_of_get s4
  have hZ : Zs O M1 k0 := by
    cases b with
    | true => exact .inl (E1.rO _ o4)
    | false => exact .inr o4
  obtain ⟨w2, s2, wx', k2, hl, hf, hx, rx, q2⟩ := h (c s1) us xs' _ e3 (Zs O M1) st1 k0 wx ws E1.bd hZ s4 q4 q1
  obtain ⟨w3, s3, k3, hl3, hf3, rx3, q3⟩ := trim_gen (L := st1.length) E1.bd hl hn hx rx q2
  have hf' : ∀ j, j < st1.length → j ≠ k0 → s3[j]? = st1[j]? := fun j hj hne => (hf3 j hj).trans (hf j hj hne)
  refine ⟨M1, s3, w3, ?_, N1.trans ⟨hl3, fun j hj hr hM => hf' j hj ?_, fun _ z => .inl z⟩, ?_, q3⟩
  · unfold eCall aCons evar
    simp only [R.bind, e0, k1]
    unfold callM
    rw [if_neg (by simp [W.lows, W.low]), k2]
    exact k3
  · rintro rfl
    cases b with
    | true => exact hr o4
    | false => exact hM o4
  · rw [← h2]
    exact E1.putN (h1 s1) e0 hl3 hf' ((hf3 _ hn).trans hx) rx3
theorem fr_mk {nN np : Nat} {body : SX} {C T : Type} {G : T → List AV} {FB : C → List AV} {P : List U → List U → Option (List U × U)} {tb : List U → List U → Option (Fw T C)} (hb : ∀ xs us, us.length + 1 = np → SS (.own true xs :: (us.map AV.val ++ List.replicate (nN - np) .no)) body (tb xs us) G FB) (hP : ∀ xs us v, P xs us = some v → us.length + 1 = np ∧ retR (tb xs us) = some v) : FR (mkFn nN np body) P := by
  intro xs us xs' v e O st n wx ws hO hn hx rx h
  obtain ⟨hl, e⟩ := hP xs us _ e
  obtain ⟨fl, e1, e⟩ := bnd_ok e
  have E : EmA O (some n) (fun _ => False) st (.own true xs :: (us.map AV.val ++ List.replicate (nN - np) .no)) ((W.ls n :: ws).map some ++ List.replicate (nN - np) none) := {
    len := by simp [h.length]
    bO := hO
    bM := fun _ z => z.elim
    rO := fun m z => by cases z; exact hn
    hr := fun m z => ⟨0, xs, rfl⟩
    at_ := fun i a e => by
      cases i with
      | zero =>
        simp at e
        subst e
        exact ⟨n, wx, rfl, rfl, hx, rx.wk fun _ z => z.elim id False.elim⟩
      | succ i =>
        simp only [List.getElem?_cons_succ] at e
        rcases avs_get us _ i a e with ⟨u, h1, rfl⟩ | rfl
        · obtain ⟨w, h2, h3⟩ := h.get h1
          refine ⟨w, ?_, h3.wk fun _ z => z.elim id False.elim⟩
          have := env_get ws (nN - np) i w h2
          simpa using this
        · trivial
    inj := fun i j b us' c vs m h1 h2 _ _ => by
      have no : ∀ {k : Nat} {b : Bool} {vs : List U}, (.own true xs :: (us.map AV.val ++ List.replicate (nN - np) .no))[k]? = some (.own b vs) → k = 0 := by
        intro k b vs z
        cases k with
        | zero => rfl
        | succ k =>
          simp only [List.getElem?_cons_succ] at z
          rcases avs_get us _ k _ z with ⟨u, _, q⟩ | q <;> cases q
      rw [no h1, no h2] }
  obtain ⟨M', st', N, h1⟩ := hb xs us hl fl e1 O _ _ st _ E
  have hw : (W.ls n :: ws).length = np := by rw [List.length_cons, ← h.length]; exact hl
  cases fl with
  | rt u rs =>
    cases e
    obtain ⟨w, h1, q, q2⟩ := h1
    obtain ⟨wx', hx', rx'⟩ := q2 n rfl
    refine ⟨w, st', wx', ?_, N.le, fun j hj hne => N.fr j hj (fun z => hne (by cases z; rfl)) id, hx', rx', q⟩
    unfold mkFn
    rw [if_pos hw, h1]
  | nx s => cases e
  | bk _ => cases e
  | ct _ => cases e
def bp0 (p : List U → Option (List U × U)) : List U → List U → Option (List U × U)
  | xs, [] => p xs
  | _, _ => none
def bp1 (p : List U → U → Option (List U × U)) : List U → List U → Option (List U × U)
  | xs, [a] => p xs a
  | _, _ => none
def bp2 (p : List U → U → U → Option (List U × U)) : List U → List U → Option (List U × U)
  | xs, [a, b] => p xs a b
  | _, _ => none
def bp3 (p : List U → U → U → U → Option (List U × U)) : List U → List U → Option (List U × U)
  | xs, [a, b, c] => p xs a b c
  | _, _ => none
def bp4 (p : List U → U → U → U → U → Option (List U × U)) : List U → List U → Option (List U × U)
  | xs, [a, b, c, d] => p xs a b c d
  | _, _ => none
variable {T C : Type} {G : T → List AV} {FB : C → List AV}
theorem fr_mk0 {nN : Nat} {body : SX} {tb : List U → Option (Fw T C)} (hb : ∀ xs, SS (.own true xs :: List.replicate (nN - 1) .no) body (tb xs) G FB) : FR (mkFn nN 1 body) (bp0 fun xs => retR (tb xs)) :=
  fr_mk (tb := fun xs us => tb xs) (G := G) (FB := FB) (fun xs us hl => by match us, hl with | [], _ => exact hb xs) fun xs us v e => by match us, e with | [], e => exact ⟨rfl, e⟩
theorem fr_mk1 {nN : Nat} {body : SX} {tb : List U → U → Option (Fw T C)} (hb : ∀ xs a, SS (.own true xs :: .val a :: List.replicate (nN - 2) .no) body (tb xs a) G FB) : FR (mkFn nN 2 body) (bp1 fun xs a => retR (tb xs a)) :=
  fr_mk (tb := fun xs us => match us with | [a] => tb xs a | _ => none) (G := G) (FB := FB) (fun xs us hl => by match us, hl with | [a], _ => exact hb xs a) fun xs us v e => by match us, e with | [a], e => exact ⟨rfl, e⟩
theorem fr_mk2 {nN : Nat} {body : SX} {tb : List U → U → U → Option (Fw T C)} (hb : ∀ xs a b, SS (.own true xs :: .val a :: .val b :: List.replicate (nN - 3) .no) body (tb xs a b) G FB) : FR (mkFn nN 3 body) (bp2 fun xs a b => retR (tb xs a b)) :=
  fr_mk (tb := fun xs us => match us with | [a, b] => tb xs a b | _ => none) (G := G) (FB := FB) (fun xs us hl => by match us, hl with | [a, b], _ => exact hb xs a b) fun xs us v e => by match us, e with | [a, b], e => exact ⟨rfl, e⟩
theorem fr_mk3 {nN : Nat} {body : SX} {tb : List U → U → U → U → Option (Fw T C)} (hb : ∀ xs a b c, SS (.own true xs :: .val a :: .val b :: .val c :: List.replicate (nN - 4) .no) body (tb xs a b c) G FB) : FR (mkFn nN 4 body) (bp3 fun xs a b c => retR (tb xs a b c)) :=
  fr_mk (tb := fun xs us => match us with | [a, b, c] => tb xs a b c | _ => none) (G := G) (FB := FB) (fun xs us hl => by match us, hl with | [a, b, c], _ => exact hb xs a b c) fun xs us v e => by match us, e with | [a, b, c], e => exact ⟨rfl, e⟩
theorem fr_mk4 {nN : Nat} {body : SX} {tb : List U → U → U → U → U → Option (Fw T C)} (hb : ∀ xs a b c d, SS (.own true xs :: .val a :: .val b :: .val c :: .val d :: List.replicate (nN - 5) .no) body (tb xs a b c d) G FB) : FR (mkFn nN 5 body) (bp4 fun xs a b c d => retR (tb xs a b c d)) :=
  fr_mk (tb := fun xs us => match us with | [a, b, c, d] => tb xs a b c d | _ => none) (G := G) (FB := FB) (fun xs us hl => by match us, hl with | [a, b, c, d], _ => exact hb xs a b c d) fun xs us v e => by match us, e with | [a, b, c, d], e => exact ⟨rfl, e⟩

/-! ### pop -/
def popU (us : List U) : Option (List U × U) := bnd (nth us (us.length - 1)) fun u => some (us.dropLast, u)
theorem ee_pop {i : Nat} {b : Bool} {c : S → List U} {up : S → List U → S} (h1 : (F s)[i]? = some (.own b (c s))) (h2 : ∀ us, (F s).set i (.own b us) = F (up s us)) : EE (F s) (eMth mPop (evar i) aNil) (bnd (popU (c s)) fun y => some (up s y.1, y.2)) F := by
  intro s' u e O r M st env E
  obtain ⟨⟨xs, v⟩, e1, e⟩ := bnd_ok e
  cases e
  obtain ⟨v', e2, e1⟩ := bnd_ok e1
  cases e1
  obtain ⟨n, ws, e3, o, s3, q⟩ := E.own h1
  rw [nth_eq] at e2
  obtain ⟨w, k2, q2⟩ := q.get e2
  have hZ : Zs O M n := by
    cases b with
    | true => exact .inl (E.rO _ o)
    | false => exact .inr o
  refine ⟨M, st.set n (.lst ws.dropLast), w, ?_, Nx.put E h1 e3, ?_, q2.step (fun _ _ z => z) fun m _ z => List.getElem?_set_ne (by rintro rfl; exact z hZ)⟩
  · unfold eMth aNil evar
    simp only [R.bind, e3, mPop, s3]
    rw [q.length] at k2
    simp only [k2]
  · rw [← h2]
    exact E.put h1 e3 q.dropLast
def popAtU (us : List U) : U → Option (List U × U)
  | .int i => cond (mid i) (bnd (ixN us.length i) fun j => bnd (nth us j) fun u => some (us.eraseIdx j, u)) none
  | _ => none
theorem ee_popAt {i : Nat} {b : Bool} {c : S → List U} {up : S → List U → S} {t : Option (S × U)} (h0 : ∃ us, A[i]? = some (.own b us)) (h1 : ∀ s, (F s)[i]? = some (.own b (c s))) (h2 : ∀ s us, (F s).set i (.own b us) = F (up s us)) (ha : EE A m t F) : EE A (eMth mPop (evar i) (aCons m aNil)) (bnd t fun x => bnd (popAtU (c x.1) x.2) fun y => some (up x.1 y.1, y.2)) F := by
  intro s' u e O r M st env E
  obtain ⟨⟨s1, k⟩, e0, e⟩ := bnd_ok e
  obtain ⟨⟨xs, v⟩, e1, e⟩ := bnd_ok e
  cases e
  obtain ⟨us0, h0⟩ := h0
  obtain ⟨n0, ws0, z0, _, _, _⟩ := E.own h0
  obtain ⟨M1, st1, wk, k1, N1, E1, q1⟩ := ha s1 k e0 O r M st env E
  cases k with
  | int j =>
    obtain ⟨hm, e1⟩ := cond_so e1
    obtain ⟨l, e4, e1⟩ := bnd_ok e1
    obtain ⟨v', e2, e1⟩ := bnd_ok e1
    cases e1
    cases q1
    obtain ⟨n, ws, e3, o, s3, q⟩ := E1.own (h1 s1)
    rw [z0] at e3
    cases e3
    rw [nth_eq] at e2
    obtain ⟨w, k2, q2⟩ := q.get e2
    have hZ : Zs O M1 n0 := by
      cases b with
      | true => exact .inl (E1.rO _ o)
      | false => exact .inr o
    have := mid_ok hm
    refine ⟨M1, st1.set n0 (.lst (ws.eraseIdx l)), w, ?_, N1.trans (Nx.put E1 (h1 s1) z0), ?_, q2.step (fun _ _ z => z) fun m _ z => List.getElem?_set_ne (by rintro rfl; exact z hZ)⟩
    · unfold eMth aCons aNil evar
      rw [q.length] at e4
      simp only [R.bind, z0, k1, mPop, s3, e4, k2]
      rw [if_pos (by omega)]
    · rw [← h2]
      exact E1.put (h1 s1) z0 (q.erase l)
  | _ => cases e1

/-! ### comprehensions with changes -/
theorem EmA.reslot {env' : Env'} (E : EmA O r M st A env) (hl : env'.length = env.length) (h : ∀ (j : Nat) (a : AV), A[j]? = some a → a ≠ .no → env'[j]? = env[j]?) : EmA O r M st A env' where
  len := hl.trans E.len
  bO := E.bO
  bM := E.bM
  rO := E.rO
  hr := E.hr
  at_ := fun i a e => by
    have := E.at_ i a e
    cases a with
    | no => trivial
    | val u => rw [h i _ e (by intro z; cases z)]; exact this
    | own b us => rw [h i _ e (by intro z; cases z)]; exact this
  inj := fun i j b us c vs n h1 h2 h3 h4 => by
    rw [h i _ h1 (by intro z; cases z)] at h3
    rw [h j _ h2 (by intro z; cases z)] at h4
    exact E.inj i j b us c vs n h1 h2 h3 h4
def mapS (f : U → S → Option (S × U)) : List U → S → Option (S × List U)
  | [], s => some (s, [])
  | x :: xs, s => bnd (f x s) fun y => bnd (mapS f xs y.1) fun z => some (z.1, y.2 :: z.2)
theorem wipeE_len (env : Env') : ∀ vs : List Nat, (wipeE env vs).length = env.length
  | [] => rfl
  | v :: vs => by simp [wipeE, wipeE_len env vs]
theorem wipeE_get (env : Env') (j : Nat) : ∀ vs : List Nat, j ∉ vs → (wipeE env vs)[j]? = env[j]?
  | [], _ => rfl
  | v :: vs, h => by
    unfold wipeE
    rw [List.getElem?_set_ne (by rintro rfl; simp at h), wipeE_get env j vs (by simp at h; exact h.2)]
/-- the slots have nothing -/
def freeAt (A : List AV) (vs : List Nat) : Bool := vs.all fun v => match A[v]? with
  | some .no => true
  | _ => false
theorem freeAt_no {vs : List Nat} (h : freeAt A vs = true) {j : Nat} {a : AV} (e : A[j]? = some a) (ha : a ≠ .no) : j ∉ vs := by
  intro hj
  have := List.all_eq_true.mp h j hj
  rw [e] at this
  cases a with
  | no => exact ha rfl
  | _ => cases this
theorem compS_run {Q : Type} {p : Pat} {tp : U → Option Q} {F1 : S → Q → List AV} {tb : S → Q → Option (S × U)} (hp : ∀ s x, PV p (F s) x (tp x) (F1 s)) (hb : ∀ s q, EE (F1 s q) m (tb s q) fun s' => F1 s' q) (hw : ∀ s q, Wk (F1 s q) (F s)) (hs0 : ∀ s, freeAt (F s) p.slots = true) (hset : ∀ w st env env', p.set w st env = some env' → env'.length = env.length ∧ ∀ j, j ∉ p.slots → env'[j]? = env[j]?) {us : List U} {src : Src} :
    ∀ (xs vs : List U) (k N : Nat) (s s' : S) (M : Nat → Prop) (st : Sto), us.drop k = xs → mapS (fun x s => bnd (tp x) fun q => tb s q) xs s = some (s', vs) → xs.length + 1 ≤ N → EmA O r M st (F s) env → SrcE true (Zs O M) st src us →
      ∃ M' st' ws, compM src p tYesM m env N k st = .ok ws st' ∧ Nx r M st M' st' ∧ EmA O r M' st' (F s') env ∧ Ems (Zs O M') st' vs ws
  | [], vs, k, N, s, s', M, st, hd, e, hN, E, hs => by
    cases e
    obtain ⟨N, rfl⟩ : ∃ N', N = N' + 1 := ⟨N - 1, by simp at hN; omega⟩
    refine ⟨M, st, [], ?_, Nx.refl, E, .nil⟩
    unfold compM
    rw [hs.end_ (drop_nil hd)]
  | x :: xs, vs, k, N, s, s', M, st, hd, e, hN, E, hs => by
    obtain ⟨N, rfl⟩ : ∃ N', N = N' + 1 := ⟨N - 1, by simp at hN; omega⟩
    obtain ⟨⟨s1, y⟩, e1, e⟩ := bnd_ok e
    obtain ⟨⟨s2, ys⟩, e2, e⟩ := bnd_ok e
    cases e
    obtain ⟨q, e3, e1⟩ := bnd_ok e1
    obtain ⟨hx, hd'⟩ := drop_head hd
    obtain ⟨w, h1, q1⟩ := hs.at_ hx
    obtain ⟨env1, h2, E1⟩ := hp s x q e3 O r M st env w E q1
    obtain ⟨M2, s2, wy, h3, N2, E2, q3⟩ := hb s q s1 y e1 O r M st env1 E1
    have E3 := E2.weak (hw s1 q)
    obtain ⟨hl, hj⟩ := hset w st env env1 h2
    have E4 := E3.reslot hl.symm fun j a ea ha => (hj j (freeAt_no (hs0 s1) ea ha)).symm
    have N3 : Nx r M2 s2 (OwnM (F s1) env1 M2) s2 := Nx.weak
    obtain ⟨M5, s5, ws, h5, N5, E5, q5⟩ := compS_run hp hb hw hs0 hset xs ys (k + 1) N s1 _ _ s2 hd' e2 (by simp at hN; omega) E4 (hs.nx E (N2.trans N3))
    refine ⟨M5, s5, wy :: ws, ?_, (N2.trans N3).trans N5, E5, .cons (Nx.keep E2 (N3.trans N5) q3) q5⟩
    unfold compM
    rw [h1]
    simp only []
    rw [h2]
    simp only [tYesM, h3, h5]
theorem set_nm {i : Nat} : ∀ w st env env', Pat.set (.nm i) w st env = some env' → env'.length = env.length ∧ ∀ j, j ∉ (Pat.nm i).slots → env'[j]? = env[j]? := by
  intro w st env env' h
  cases h
  exact ⟨by simp, fun j hj => List.getElem?_set_ne (by rintro rfl; simp [Pat.slots] at hj)⟩
theorem setAll_get : ∀ (is : List Nat) (ws : List W) (env env' : Env'), setAll is ws env = some env' → env'.length = env.length ∧ ∀ j, j ∉ is → env'[j]? = env[j]?
  | [], [], env, env', h => by cases h; exact ⟨rfl, fun _ _ => rfl⟩
  | i :: is, w :: ws, env, env', h => by
    obtain ⟨h1, h2⟩ := setAll_get is ws _ env' h
    refine ⟨by rw [h1]; simp, fun j hj => ?_⟩
    simp at hj
    rw [h2 j hj.2, List.getElem?_set_ne (by intro z; exact hj.1 z.symm)]
  | [], _ :: _, _, _, h => by cases h
  | _ :: _, [], _, _, h => by cases h
theorem set_tp {is : List Nat} : ∀ w st env env', Pat.set (.tp is) w st env = some env' → env'.length = env.length ∧ ∀ j, j ∉ (Pat.tp is).slots → env'[j]? = env[j]? := by
  intro w st env env' h
  simp only [Pat.set] at h
  split at h
  · exact setAll_get is _ env env' h
  · cases h
theorem ee_comp {Q : Type} {it : IX} {p : Pat} {vs : List Nat} {ti : Option (List U)} {tp : U → Option Q} {F1 : S → Q → List AV} {tb : S → Q → Option (S × U)} (hi : IV true (F s) it ti) (hp : ∀ s x, PV p (F s) x (tp x) (F1 s)) (hb : ∀ s q, EE (F1 s q) m (tb s q) fun s' => F1 s' q) (hw : ∀ s q, Wk (F1 s q) (F s)) (hs0 : ∀ s, freeAt (F s) p.slots = true) (hv : ∀ s, freeAt (F s) vs = true) (hset : ∀ w st env env', p.set w st env = some env' → env'.length = env.length ∧ ∀ j, j ∉ p.slots → env'[j]? = env[j]?) :
    EE (F s) (eComp it p tYesM m vs) (bnd ti fun us => bnd (mapS (fun x s => bnd (tp x) fun q => tb s q) us s) fun y => bnd (len6 y.2) fun us => some (y.1, .lst us)) F := by
  intro s' u e O r M st env E
  obtain ⟨us, e1, e⟩ := bnd_ok e
  obtain ⟨⟨s1, ys⟩, e2, e⟩ := bnd_ok e
  obtain ⟨zs, e3, e⟩ := bnd_ok e
  cases e
  obtain ⟨rfl, hl⟩ := len6_ok e3
  obtain ⟨src, g, k1, hs⟩ := hi us e1 O r M st env E
  have E1 : EmA O r M (st ++ g) (F s) (wipeE env vs) := (E.ext g).reslot (wipeE_len env vs) fun j a ea ha => wipeE_get env j vs (freeAt_no (hv s) ea ha)
  obtain ⟨M2, s2, ws, k2, N2, E2, q2⟩ := compS_run hp hb hw hs0 hset us ys 0 _ s _ M _ rfl e2 hs.bound E1 hs
  have E3 : EmA O r M2 s2 (F _) env := E2.reslot (wipeE_len env vs).symm fun j a ea ha => (wipeE_get env j vs (freeAt_no (hv _) ea ha)).symm
  refine ⟨M2, s2 ++ [.lst ws], .ls s2.length, ?_, ((Nx.ext g).trans N2).trans (Nx.ext _), E3.ext _, .lst (fun z => by have := E3.bd _ z; omega) (by simp) (q2.ext _)⟩
  unfold eComp
  simp only [R.bind, k1, k2]
  rw [if_pos (by rw [← q2.length]; exact hl)]

/-! ### statements -/
theorem sn_asgE {i : Nat} {t : Option (S × U)} (h : EE A m t F) (hi : ∀ s, noRefAt (F s) i = true) : SN A (sPat (.nm i) m) t fun x => (F x.1).set i (.val x.2) := by
  intro x e O r M st env E
  obtain ⟨s', u⟩ := x
  obtain ⟨M', st', w, k1, N, E1, q⟩ := h s' u e O r M st env E
  refine ⟨M', st', env.set i (some w), ?_, N, E1.set q i (noRefAt_ok (hi s'))⟩
  unfold sPat
  simp only [R.bind, k1, Pat.set]
theorem sn_patE {Q : Type} {p : Pat} {t : Option (S × U)} {tp : U → Option Q} {F1 : S → Q → List AV} (h : EE A m t F) (hp : ∀ s x, PV p (F s) x (tp x) (F1 s)) : SN A (sPat p m) (bnd t fun x => bnd (tp x.2) fun q => some (x.1, q)) fun z => F1 z.1 z.2 := by
  intro x e O r M st env E
  obtain ⟨⟨s', u⟩, e1, e⟩ := bnd_ok e
  obtain ⟨q, e2, e⟩ := bnd_ok e
  cases e
  obtain ⟨M', st', w, k1, N, E1, q1⟩ := h s' u e1 O r M st env E
  obtain ⟨env1, h2, E2⟩ := hp s' u q e2 O r M' st' env w E1 q1
  refine ⟨M', st', env1, ?_, N, E2⟩
  unfold sPat
  simp only [R.bind, k1, h2]
theorem sn_parE {i j : Nat} {n : AX} {t : Option (S × List U)} (h : EEA A n t F) (hi : ∀ s, noRefAt (F s) i = true) (hj : ∀ s, noRefAt (F s) j = true) : SN A (sPar i j n) (bnd t fun x => bnd (un2 (.tup x.2)) fun q => some (x.1, q)) fun z => ((F z.1).set i (.val z.2.1)).set j (.val z.2.2) := by
  intro x e O r M st env E
  obtain ⟨⟨s', us⟩, e1, e⟩ := bnd_ok e
  obtain ⟨q, e2, e⟩ := bnd_ok e
  cases e
  obtain ⟨M', st', ws, k1, N, E1, q1⟩ := h s' us e1 O r M st env E
  have := un2_ok e2
  cases this
  cases q1 with
  | cons a q1 =>
    cases q1 with
    | cons b q1 =>
      cases q1
      refine ⟨M', st', _, ?_, N, (E1.set a i (noRefAt_ok (hi s'))).set b j (noRef_set (noRefAt_ok (hj s')))⟩
      unfold sPar
      simp only [R.bind, k1]
theorem sn_par3E {i j k : Nat} {n : AX} {t : Option (S × List U)} (h : EEA A n t F) (hi : ∀ s, noRefAt (F s) i = true) (hj : ∀ s, noRefAt (F s) j = true) (hk : ∀ s, noRefAt (F s) k = true) : SN A (sPar3 i j k n) (bnd t fun x => bnd (un3 (.tup x.2)) fun q => some (x.1, q)) fun z => (((F z.1).set i (.val z.2.1)).set j (.val z.2.2.1)).set k (.val z.2.2.2) := by
  intro x e O r M st env E
  obtain ⟨⟨s', us⟩, e1, e⟩ := bnd_ok e
  obtain ⟨q, e2, e⟩ := bnd_ok e
  cases e
  obtain ⟨M', st', ws, k1, N, E1, q1⟩ := h s' us e1 O r M st env E
  have := un3_ok e2
  cases this
  cases q1 with
  | cons a q1 =>
    cases q1 with
    | cons b q1 =>
      cases q1 with
      | cons c q1 =>
        cases q1
        refine ⟨M', st', _, ?_, N, ((E1.set a i (noRefAt_ok (hi s'))).set b j (noRef_set (noRefAt_ok (hj s')))).set c k (noRef_set (noRef_set (noRefAt_ok (hk s'))))⟩
        unfold sPar3
        simp only [R.bind, k1]
theorem sn_exprE {t : Option (S × U)} (h : EE A m t F) : SN A (sExpr m) (bnd t fun x => some x.1) F := by
  intro x e O r M st env E
  obtain ⟨⟨s', u⟩, e1, e⟩ := bnd_ok e
  cases e
  obtain ⟨M', st', w, k1, N, E1, q⟩ := h _ u e1 O r M st env E
  exact ⟨M', st', env, by unfold sExpr; simp only [R.bind, k1], N, E1⟩
/-- xs.append(..), what is put there may change other lists -/
theorem sn_appE {i : Nat} {b : Bool} {c : S → List U} {t : Option (S × U)} (h0 : ∃ us, A[i]? = some (.own b us)) (h1 : ∀ s, (F s)[i]? = some (.own b (c s))) (h : EE A m t F) : SN A (sExpr (eMth mAppend (evar i) (aCons m aNil))) (bnd t fun x => bnd (appU (c x.1) x.2) fun vs => some (x.1, vs)) fun z => (F z.1).set i (.own b z.2) := by
  intro x e O r M st env E
  obtain ⟨⟨s', u⟩, e1, e⟩ := bnd_ok e
  obtain ⟨vs, e2, e⟩ := bnd_ok e
  cases e
  obtain ⟨hl, e2⟩ := cond_so e2
  cases e2
  obtain ⟨us0, h0⟩ := h0
  obtain ⟨n0, ws0, z0, _, _, _⟩ := E.own h0
  obtain ⟨M', st', w, k1, N, E1, q⟩ := h s' u e1 O r M st env E
  obtain ⟨n, ws, e3, o, s3, q3⟩ := E1.own (h1 s')
  rw [z0] at e3
  cases e3
  have hl' : ws.length < 100000 := by
    rw [← q3.length]
    simpa [Nat.blt_eq] using hl
  refine ⟨M', st'.set n0 (.lst (ws ++ [w])), env, ?_, N.trans (Nx.put E1 (h1 s') z0), E1.put (h1 s') z0 (q3.snoc q)⟩
  unfold sExpr eMth aCons aNil evar
  simp only [R.bind, z0, k1, mAppend, s3]
  rw [if_pos hl']
theorem ie_of {t : Option (S × U)} (h : EE A m t F) : IE A (iOf m) (bnd t fun x => bnd (seqU x.2) fun us => some (x.1, us)) F := by
  intro s' us e O r M st env E
  obtain ⟨⟨s1, a⟩, e1, e⟩ := bnd_ok e
  obtain ⟨vs, e2, e⟩ := bnd_ok e
  cases e
  obtain ⟨M', st', w, k1, N, E1, q⟩ := h _ a e1 O r M st env E
  unfold iOf
  simp only [R.bind, k1]
  cases a with
  | tup xs =>
    cases e2
    obtain ⟨ws, rfl, r1⟩ := emb_tup q.b
    exact ⟨M', st', _, rfl, N, E1, .fix r1⟩
  | lst xs =>
    cases e2
    obtain ⟨n, ws, rfl, z, e2, r1⟩ := em_lst' q
    exact ⟨M', st', _, rfl, N, E1, .lv (fun _ => z) e2 r1⟩
  | frz ns =>
    cases e2
    have := emb_frz q.b; subst this
    exact ⟨M', st', _, rfl, N, E1, .fix (.ints ns)⟩
  | _ => cases e2
theorem ie_iv {it : IX} {t : Option (List U)} (h : IV true (F s) it t) : IE (F s) it (bnd t fun us => some (s, us)) F := by
  intro s' us e O r M st env E
  obtain ⟨vs, e1, e⟩ := bnd_ok e
  cases e
  obtain ⟨src, g, k1, hs⟩ := h us e1 O r M st env E
  exact ⟨M, st ++ g, src, k1, Nx.ext g, E.ext g, hs⟩
theorem ie_rng1 {t : Option (S × U)} (h : EE A m t F) : IE A (iRange (aCons m aNil)) (bnd t fun x => bnd (inte x.2) fun j => bnd (ranTo 0 j) fun us => some (x.1, us)) F := by
  intro s' us e O r M st env E
  obtain ⟨⟨s1, a⟩, e1, e⟩ := bnd_ok e
  obtain ⟨j, e2, e⟩ := bnd_ok e
  obtain ⟨vs, e3, e⟩ := bnd_ok e
  cases e
  obtain ⟨M', st', w, k1, N, E1, q⟩ := h _ a e1 O r M st env E
  cases a with
  | int i =>
    cases e2
    cases q
    obtain ⟨_, rfl, _, h3⟩ := ranTo_ok e3
    refine ⟨M', st', .fix (rngW 0 1 j.toNat), ?_, N, E1, ?_⟩
    · unfold iRange aCons aNil
      simp only [R.bind, k1]
      rw [if_pos h3]
    · rw [Int.sub_zero]
      exact .fix (rng_em _ _)
  | _ => cases e2
theorem sn_forE {S2 Q : Type} {it : IX} {p : Pat} {body : SX} {F2 : S2 → List AV} {ti : Option (S × List U)} {tp : U → Option Q} {F1 : S2 → Q → List AV} {tb : S2 → Q → Option S2} {s0 : S → S2} (hi : IE A it ti F) (w : ∀ s, Wk (F s) (F2 (s0 s))) (hp : ∀ s x, PV p (F2 s) x (tp x) (F1 s)) (hb : ∀ s q, SN (F1 s q) body (tb s q) F2) : SN A (sFor it p body) (bnd ti fun x => folU (fun x s => bnd (tp x) fun q => tb s q) x.2 (s0 x.1)) F2 := by
  intro s e O r M st env E
  obtain ⟨⟨s1, us⟩, e1, e⟩ := bnd_ok e
  obtain ⟨M1, st1, src, h1, N1, E1, hs⟩ := hi s1 us e1 O r M st env E
  have E' := E1.weak (w s1)
  obtain ⟨M', st', env', h2, N, E2⟩ := fol_run hp hb us 0 _ (s0 s1) s _ _ env rfl e hs.bound E' (hs.nx E1 Nx.weak)
  refine ⟨M', st', env', ?_, (N1.trans Nx.weak).trans N, E2⟩
  unfold sFor
  simp only [R.bind, h1, h2]
theorem ss_forE {S2 Q : Type} {it : IX} {p : Pat} {body : SX} {F2 : S2 → List AV} {ti : Option (S × List U)} {tp : U → Option Q} {F1 : S2 → Q → List AV} {tb : S2 → Q → Option (Fw S2 S2)} {s0 : S → S2} (hi : IE A it ti F) (w : ∀ s, Wk (F s) (F2 (s0 s))) (hp : ∀ s x, PV p (F2 s) x (tp x) (F1 s)) (hb : ∀ s q, SS (F1 s q) body (tb s q) F2 F2) : SS A (sFor it p body) (bnd ti fun x => forU (fun x s => bnd (tp x) fun q => tb s q) x.2 (s0 x.1)) F2 FB := by
  intro fl e O r M st env E
  obtain ⟨⟨s1, us⟩, e1, e⟩ := bnd_ok e
  obtain ⟨M1, st1, src, h1, N1, E1, hs⟩ := hi s1 us e1 O r M st env E
  have E' := E1.weak (w s1)
  obtain ⟨M', st', N, h2⟩ := for_run (FB := FB) hp hb us 0 _ (s0 s1) fl _ _ env rfl e hs.bound E' (hs.nx E1 Nx.weak)
  refine ⟨M', st', (N1.trans Nx.weak).trans N, ?_⟩
  have : sFor it p body env st = forM src p body (src.bound st1) 0 env st1 := by
    unfold sFor
    simp only [R.bind, h1]
  rw [this]
  exact h2
theorem ss_retE {i : Nat} {c : S → List U} {t : Option (S × U)} (h : EE A m t F) (h1 : ∀ s, (F s)[i]? = some (.own true (c s))) : SS A (sRet m) (bnd t fun x => some (.rt x.2 (c x.1))) G FB := by
  intro fl e O r M st env E
  obtain ⟨⟨s', u⟩, e1, e⟩ := bnd_ok e
  cases e
  obtain ⟨M', st', w, k1, N, E1, q⟩ := h s' u e1 O r M st env E
  exact ⟨M', st', N, w, by unfold sRet; simp only [R.bind, k1], q.wk fun _ z => .inl z, E1.refAt (h1 s')⟩
theorem ss_ifE {c : TX} {p q : SX} {tc : Option (S × Bool)} {tp tq : S → Option (Fw T C)} (hc : TE A c tc F) (hp : ∀ s, SS (F s) p (tp s) G FB) (hq : ∀ s, SS (F s) q (tq s) G FB) : SS A (sIf c p q) (bnd tc fun x => cond x.2 (tp x.1) (tq x.1)) G FB := by
  intro fl e O r M st env E
  obtain ⟨⟨s1, b⟩, e1, e⟩ := bnd_ok e
  obtain ⟨M1, st1, k1, N1, E1⟩ := hc s1 b e1 O r M st env E
  cases b with
  | true =>
    obtain ⟨M', st', N, h1⟩ := hp s1 fl e O r M1 st1 env E1
    refine ⟨M', st', N1.trans N, ?_⟩
    have : sIf c p q env st = p env st1 := by unfold sIf; simp only [R.bind, k1, if_true]
    rw [this]
    exact h1
  | false =>
    obtain ⟨M', st', N, h1⟩ := hq s1 fl e O r M1 st1 env E1
    refine ⟨M', st', N1.trans N, ?_⟩
    have : sIf c p q env st = q env st1 := by unfold sIf; simp only [R.bind, k1, Bool.false_eq_true, if_false]
    rw [this]
    exact h1
theorem ss_ifqE {c : TX} {p q n : SX} {tc : Option (S × Bool)} {tp tq : S → Option (Fw T C)} (hc : TE A c tc F) (hp : ∀ s, SS (F s) (sSeq p n) (tp s) G FB) (hq : ∀ s, SS (F s) (sSeq q n) (tq s) G FB) : SS A (sSeq (sIf c p q) n) (bnd tc fun x => cond x.2 (tp x.1) (tq x.1)) G FB := by
  rw [seq_if]
  exact ss_ifE hc hp hq
theorem sn_ifE {S2 : Type} {F2 : S2 → List AV} {c : TX} {p q : SX} {tc : Option (S × Bool)} {tp tq : S → Option S2} (hc : TE A c tc F) (hp : ∀ s, SN (F s) p (tp s) F2) (hq : ∀ s, SN (F s) q (tq s) F2) : SN A (sIf c p q) (bnd tc fun x => cond x.2 (tp x.1) (tq x.1)) F2 := by
  intro fl e O r M st env E
  obtain ⟨⟨s1, b⟩, e1, e⟩ := bnd_ok e
  obtain ⟨M1, st1, k1, N1, E1⟩ := hc s1 b e1 O r M st env E
  cases b with
  | true =>
    obtain ⟨M', st', env', h1, N, E2⟩ := hp s1 fl e O r M1 st1 env E1
    exact ⟨M', st', env', by unfold sIf; simp only [R.bind, k1, if_true, h1], N1.trans N, E2⟩
  | false =>
    obtain ⟨M', st', env', h1, N, E2⟩ := hq s1 fl e O r M1 st1 env E1
    exact ⟨M', st', env', by unfold sIf; simp only [R.bind, k1, Bool.false_eq_true, if_false, h1], N1.trans N, E2⟩
end
end
end Rx

/-! UxG: rules as the printed derivations use them. -/
namespace Rx
open PySem PySem.Spec PyProof.Rows L2
section
variable {X : Cx} {elt iter iter1 tg tg1 : Expr} {pos : Pos} {ifs ifs1 : List Expr} {scope : Scope} {own : List (Str × Nat)}
theorem rs_setComp2 {N : List Str} {sc : Scope} (hX : In X N sc) {i : Nat} {y : Str} {py : Pos} {spos : Pos} {it it1 : IX} {p p1 : Pat} {t t1 : TX} {m : EX} (hy : ixOk N i y = true) (hyl : locB sc y = true)
    (hsw : ∀ env : Env, env.scope = sc → swapsWith (.ListComp elt [⟨tg, iter, ifs, 0⟩, ⟨tg1, iter1, ifs1, 0⟩] scope pos) (some (.Name y py)) spos.line env = pure true) (hi : RI X tg iter it) (ok : blkC N sc scope own = true) (hp : (p.slots.all fun i => decide (i ∈ own.map (·.2))) = true) (hv : (p1.slots.all fun i => decide (i ∈ own.map (·.2))) = true)
    (hg : ∀ (s : Shared) (H : Hp) (C : Addr) (cl : List (Str × Addr)) (fp : List Addr), RG (X.blk s H scope (compEnvC scope cl C X.env) fp) tg p) (ht : ∀ (s : Shared) (H : Hp) (C : Addr) (cl : List (Str × Addr)) (fp : List Addr), RTs (X.blk s H scope (compEnvC scope cl C X.env) fp) ifs t)
    (hi1 : ∀ (s : Shared) (H : Hp) (C : Addr) (cl : List (Str × Addr)) (fp : List Addr), RI (X.blk s H scope (compEnvC scope cl C X.env) fp) tg1 iter1 it1)
    (hg1 : ∀ (s : Shared) (H : Hp) (C : Addr) (cl : List (Str × Addr)) (fp : List Addr), RG (X.blk s H scope (compEnvC scope cl C X.env) fp) tg1 p1) (ht1 : ∀ (s : Shared) (H : Hp) (C : Addr) (cl : List (Str × Addr)) (fp : List Addr), RTs (X.blk s H scope (compEnvC scope cl C X.env) fp) ifs1 t1)
    (he : ∀ (s : Shared) (H : Hp) (C : Addr) (cl : List (Str × Addr)) (fp : List Addr), RE (X.blk s H scope (compEnvC scope cl C X.env) fp) elt m) (hs : ∀ x, foldedSetIterable iter X.env x = pure x := by intro _; rfl) (hs1 : ∀ env x, foldedSetIterable iter1 env x = pure x := by intro _ _; rfl) :
    RS X (.Assign [.Name y py] (.ListComp elt [⟨tg, iter, ifs, 0⟩, ⟨tg1, iter1, ifs1, 0⟩] scope pos) spos) (sPat (.nm i) (eComp2 it p t it1 p1 t1 m (own.map (·.2)))) :=
  ps_imp (ps_setLc2 (i := i) hX.calm (by rw [hX.n]; exact hX.nd) (by rw [hX.n]; exact of_decide_eq_true hy) (locB_ok hX hyl) (hsw X.env hX.s) hi (blk_ok hX ok) (nmem_of hv) hg ht hi1 hg1 ht1 he hs hs1) fun D σ H h => comp2_run hp (asg_run h)
end
noncomputable section
section
variable {A B : List AV} {S T C : Type} {F F' : S → List AV} {G : T → List AV} {FB : C → List AV} {s : S}
theorem pw_nm {i : Nat} {x : U} {F : U → List AV} (hF : ∀ q, F q = A.set i (.val q)) (hi : noRefAt A i = true) : PV (.nm i) A x (some x) F := by
  intro s e O r M st env w E hx
  cases e
  rw [hF]
  exact ⟨_, rfl, E.set hx i (noRefAt_ok hi)⟩
theorem pw_tp2 {i j : Nat} {x : U} {F : U × U → List AV} (hF : ∀ s, F s = (A.set i (.val s.1)).set j (.val s.2)) (h : noRefAt A i = true) (h2 : noRefAt A j = true) : PV (.tp [i, j]) A x (un2 x) F := by
  have e : F = fun s => (A.set i (.val s.1)).set j (.val s.2) := funext hF
  rw [e]
  exact pv_tp2 h h2
theorem pw_tp3 {i j k : Nat} {x : U} {F : U × U × U → List AV} (hF : ∀ s, F s = ((A.set i (.val s.1)).set j (.val s.2.1)).set k (.val s.2.2)) (h : noRefAt A i = true) (h2 : noRefAt A j = true) (h3 : noRefAt A k = true) : PV (.tp [i, j, k]) A x (un3 x) F := by
  have e : F = fun s => ((A.set i (.val s.1)).set j (.val s.2.1)).set k (.val s.2.2) := funext hF
  rw [e]
  exact pv_tp3 h h2 h3
theorem pw_tp4 {i j k l : Nat} {x : U} {F : U × U × U × U → List AV} (hF : ∀ s, F s = (((A.set i (.val s.1)).set j (.val s.2.1)).set k (.val s.2.2.1)).set l (.val s.2.2.2)) (h : noRefAt A i = true) (h2 : noRefAt A j = true) (h3 : noRefAt A k = true) (h4 : noRefAt A l = true) : PV (.tp [i, j, k, l]) A x (un4 x) F := by
  have e : F = fun s => (((A.set i (.val s.1)).set j (.val s.2.1)).set k (.val s.2.2.1)).set l (.val s.2.2.2) := funext hF
  rw [e]
  exact pv_tp4 h h2 h3 h4
theorem sn_st {m : SX} {t : Option S} (h : SN A m t F') (e : ∀ s, F' s = F s) : SN A m t F := by
  rw [← show F' = F from funext e]
  exact h
theorem ss_A {m : SX} {t : Option (Fw S C)} (e : A = B) (h : SS B m t F FB) : SS A m t F FB := e ▸ h
theorem fn_err1 {f : FX} : FN f (ap1 fun _ => none) := by
  intro us v e
  match us, e with
  | [a], e => cases e
theorem fn_err2 {f : FX} : FN f (ap2 fun _ _ => none) := by
  intro us v e
  match us, e with
  | [a, b], e => cases e
theorem fn_err3 {f : FX} : FN f (ap3 fun _ _ _ => none) := by
  intro us v e
  match us, e with
  | [a, b, c], e => cases e
/-- the count of a whole number -/
def countU : U → U → Option U
  | .lst us, .int k => bnd (intsU us) fun ns => some (.int (Int.ofNat (ns.count k)))
  | _, _ => none
theorem ev_count {ma mb : EX} {ta tb : Option U} (ha : EB A ma ta) (hb : EV A mb tb) : EV A (eMth mCount ma (aCons mb aNil)) (bnd ta fun a => bnd tb fun b => countU a b) := by
  intro u e O r M st env E
  obtain ⟨a, e1, e⟩ := bnd_ok e
  obtain ⟨b, e2, e⟩ := bnd_ok e
  obtain ⟨wa, g1, h1, q1⟩ := ha a e1 O r M st env E
  obtain ⟨wb, g2, h2, q2⟩ := hb b e2 O r M _ env (E.ext g1)
  cases a with
  | lst us =>
    cases b with
    | int k =>
      obtain ⟨ns, e3, e⟩ := bnd_ok e
      cases e
      obtain ⟨n, ws, rfl, e4, r4⟩ := emb_lst (q1.ext g2)
      have := intsU_ok e3; subst this
      have := r4.ofInts; subst this
      cases q2
      refine ⟨.int (Int.ofNat (ns.count k)), g1 ++ g2, ?_, .int _⟩
      unfold eMth aCons aNil
      simp only [R.bind, h1, h2, mCount, e4, intsW_map]
      rw [List.append_assoc]
      rfl
    | _ => cases e
  | _ => cases b <;> cases e
end
end
/-- the end: the law's answer -/
theorem law_of {f : FX} {p : U → Option U} (h : FN f (ap1 p)) {ns : List Int} (e : p (.frz ns) = some (.bl true)) : ∃ st', f [.frz ns] [] = .ok (.bl true) st' := by
  obtain ⟨w, g, h1, q⟩ := h [.frz ns] (.bl true) e (fun _ => False) [] [.frz ns] (fun n z => z.elim) (.cons (.frz ns) .nil)
  cases q
  exact ⟨_, h1⟩
end Rx
namespace Rx
open PySem PySem.Spec PyProof.Rows L2
noncomputable section
def noU : Unit → List AV := fun _ => []
section
variable {A B : List AV} {S T C : Type} {F F' : S → List AV} {G : T → List AV} {FB : C → List AV} {s : S}
theorem ss_to {m : SX} {t : Option S} {f : S → T} (h : SN A m t F) (w : ∀ s, Wk (F s) (G (f s))) : SS A m (bnd t fun s => some (.nx (f s))) G FB := by
  have := ss_of (FB := FB) (sn_to h w)
  cases t with
  | none => intro fl e; cases e
  | some a => exact this
theorem el_or {ma mb : EX} {ta tb : Option (List U)} (ha : EL A ma ta) (hb : EL A mb tb) : EL A (eOr ma mb) (bnd ta fun a => bnd (truU (.lst a)) fun b => cond b (some a) tb) := by
  intro us e O r M st env E
  obtain ⟨a, e1, e⟩ := bnd_ok e
  obtain ⟨b, e2, e⟩ := bnd_ok e
  obtain ⟨n, ws, g, h1, hn, h2, q⟩ := ha a e1 O r M st env E
  have ht := tru_em (Z := Zs O M) (st := st ++ g) (wa := .ls n) e2 (.inr ⟨a, n, ws, rfl, rfl, h2, q.wk fun _ z => .inl z⟩)
  unfold eOr
  simp only [R.bind, h1, ht]
  cases b with
  | true => cases e; exact ⟨n, ws, g, rfl, hn, h2, q⟩
  | false => simp only [Bool.false_eq_true, if_false]; exact AnsL.ans (hb us e O r M _ env (E.ext g))
theorem ev_chain3 {f g h : W → W → Sto → R W} {p q l : U → U → Option Bool} {ma mb mc md : EX} {ta tb tc td : Option U} (hp : OPB f p) (hq : OPB g q) (hl : OPB h l) (ha : EB A ma ta) (hb : EB A mb tb) (hc : EB A mc tc) (hd : EB A md td) : EV A (eChain3 f g h ma mb mc md) (blO (bnd ta fun a => bnd tb fun b => bnd (p a b) fun k => cond k (bnd tc fun c => bnd (q b c) fun k2 => cond k2 (bnd td fun d => l c d) (some false)) (some false))) := by
  intro u e0 O r M st env E
  obtain ⟨v, e, ev⟩ := bnd_ok e0
  cases ev
  clear e0
  obtain ⟨a, e1, e⟩ := bnd_ok e
  obtain ⟨b, e2, e⟩ := bnd_ok e
  obtain ⟨k, e3, e⟩ := bnd_ok e
  obtain ⟨wa, g1, h1, q1⟩ := ha a e1 O r M st env E
  obtain ⟨wb, g2, h2, q2⟩ := hb b e2 O r M _ env (E.ext g1)
  have h3 := hp a b k e3 (Zs O M) _ wa wb (q1.ext g2) q2
  unfold eChain3
  simp only [R.bind, h1, h2, h3]
  cases k with
  | false =>
    cases e
    exact ⟨.bl false, g1 ++ g2, by rw [← List.append_assoc], .bl _⟩
  | true =>
    obtain ⟨c, e4, e⟩ := bnd_ok e
    obtain ⟨k2, e5, e⟩ := bnd_ok e
    obtain ⟨wc, g3, h4, q3⟩ := hc c e4 O r M _ env ((E.ext g1).ext g2)
    have h5 := hq b c k2 e5 (Zs O M) _ wb wc (q2.ext g3) q3
    simp only [h4, h5]
    cases k2 with
    | false =>
      cases e
      exact ⟨.bl false, g1 ++ (g2 ++ g3), by simp only [List.append_assoc], .bl _⟩
    | true =>
      obtain ⟨d, e6, e⟩ := bnd_ok e
      obtain ⟨wd, g4, h6, q4⟩ := hd d e6 O r M _ env (((E.ext g1).ext g2).ext g3)
      simp only [h6, hl c d v e (Zs O M) _ wc wd (q3.ext g4) q4]
      exact ⟨.bl v, g1 ++ (g2 ++ (g3 ++ g4)), by simp only [List.append_assoc], .bl _⟩
/-- several stores at once -/
def SG {S : Type} (A : List AV) (ts : List Tg) (us : List U) (t : Option S) (F : S → List AV) : Prop := ∀ s, t = some s → ∀ O r M st env ws, EmA O r M st A env → Ems (Zs O M) st us ws → ∃ st' env', setTgs ts ws env st = .ok env' st' ∧ Nx r M st M st' ∧ EmA O r M st' (F s) env'
theorem sg_nil {s : S} {F : S → List AV} (h : A = F s) : SG A [] [] (some s) F := by
  intro s' e O r M st env ws E q
  cases e
  cases q
  exact ⟨st, env, rfl, Nx.refl, h ▸ E⟩
theorem sg_sub {i : Nat} {b : Bool} {xs : List U} {mi : EX} {ti : Option U} {ts : List Tg} {u : U} {us : List U} {k : List U → Option S} {F : S → List AV} (hi : A[i]? = some (.own b xs)) (hx : EV A mi ti) (h : ∀ v, SG (A.set i (.own b v)) ts us (k v) F) : SG A (.sub (evar i) mi :: ts) (u :: us) (bnd ti fun z => bnd (setU xs z u) k) F := by
  intro s e O r M st env ws E q
  obtain ⟨z, e1, e⟩ := bnd_ok e
  obtain ⟨v, e2, e⟩ := bnd_ok e
  cases q with
  | cons q1 q2 =>
    rename_i w ws
    obtain ⟨wk, g, k1, qk⟩ := hx z e1 O r M _ env E
    have E' := E.ext g
    cases z with
    | int z =>
      obtain ⟨j, ej, e2⟩ := bnd_ok e2
      cases e2
      cases qk
      obtain ⟨n, xs', e3, o, s3, q3⟩ := E'.own hi
      have E2 := E'.put hi e3 ((q3.set (q1.ext g)) j)
      have N2 : Nx r M st M ((st ++ g).set n (.lst (xs'.set j w))) := (Nx.ext g).trans (Nx.put E' hi e3)
      obtain ⟨st', env', h3, N3, E3⟩ := h _ s e O r M _ env ws E2 (Nx.keeps E N2 q2)
      refine ⟨st', env', ?_, N2.trans N3, E3⟩
      rw [q3.length] at ej
      unfold setTgs Tg.set evar
      simp only [R.bind, e3, k1, fSet, s3, ej]
      exact h3
    | _ => cases e2
theorem sn_tgs2 {ts : List Tg} {m : EX} {t : Option U} {k : U × U → Option S} {F : S → List AV} (h : EV A m t) (hs : ∀ q : U × U, SG A ts [q.1, q.2] (k q) F) (ht : ∀ u q, t = some u → un2 u = some q → u = .tup [q.1, q.2]) : SN A (sTgs ts m) (bnd t fun u => bnd (un2 u) k) F := by
  intro s e O r M st env E
  obtain ⟨u, e1, e⟩ := bnd_ok e
  obtain ⟨q, e2, e⟩ := bnd_ok e
  obtain ⟨w, g, k1, q1⟩ := h u e1 O r M st env E
  have := ht u q e1 e2
  subst this
  obtain ⟨ws, rfl, r1⟩ := emb_tup q1.b
  obtain ⟨st', env', k2, N, E2⟩ := hs q s e O r M _ env ws (E.ext g) r1
  refine ⟨M, st', env', ?_, (Nx.ext g).trans N, E2⟩
  unfold sTgs
  simp only [R.bind, k1, k2]
theorem sn_tgs4 {ts : List Tg} {m : EX} {t : Option U} {k : U × U × U × U → Option S} {F : S → List AV} (h : EV A m t) (hs : ∀ q : U × U × U × U, SG A ts [q.1, q.2.1, q.2.2.1, q.2.2.2] (k q) F) (ht : ∀ u q, t = some u → un4 u = some q → u = .tup [q.1, q.2.1, q.2.2.1, q.2.2.2]) : SN A (sTgs ts m) (bnd t fun u => bnd (un4 u) k) F := by
  intro s e O r M st env E
  obtain ⟨u, e1, e⟩ := bnd_ok e
  obtain ⟨q, e2, e⟩ := bnd_ok e
  obtain ⟨w, g, k1, q1⟩ := h u e1 O r M st env E
  have := ht u q e1 e2
  subst this
  obtain ⟨ws, rfl, r1⟩ := emb_tup q1.b
  obtain ⟨st', env', k2, N, E2⟩ := hs q s e O r M _ env ws (E.ext g) r1
  refine ⟨M, st', env', ?_, (Nx.ext g).trans N, E2⟩
  unfold sTgs
  simp only [R.bind, k1, k2]
theorem tup2_is {t1 t2 : Option U} : ∀ u q, (bnd t1 fun a => bnd t2 fun b => some (U.tup [a, b])) = some u → un2 u = some q → u = .tup [q.1, q.2] := by
  intro u q e h
  obtain ⟨a, _, e⟩ := bnd_ok e
  obtain ⟨b, _, e⟩ := bnd_ok e
  cases e
  cases h
  rfl
theorem tup4_is {t1 t2 t3 t4 : Option U} : ∀ u q, (bnd t1 fun a => bnd t2 fun b => bnd t3 fun c => bnd t4 fun d => some (U.tup [a, b, c, d])) = some u → un4 u = some q → u = .tup [q.1, q.2.1, q.2.2.1, q.2.2.2] := by
  intro u q e h
  obtain ⟨a, _, e⟩ := bnd_ok e
  obtain ⟨b, _, e⟩ := bnd_ok e
  obtain ⟨c, _, e⟩ := bnd_ok e
  obtain ⟨d, _, e⟩ := bnd_ok e
  cases e
  cases h
  rfl

end
end
end Rx

/-! UxH: defs that return a new list of their own. -/
namespace Rx
open PySem PySem.Spec PyProof.Rows L2
noncomputable section
section
variable {A B : List AV} {S T C : Type} {F F' : S → List AV} {O M M' : Nat → Prop} {r : Option Nat} {st st' : Sto} {env : Env'}
theorem ss_errN {FB : C → List AV} : SS (S := S) A sErr none F FB := ss_none
theorem ss_errS {FB : C → List AV} {n : SX} : SS (S := S) A (sSeq sErr n) none F FB := ss_none
/-- a block that returns a new list -/
def SL (A : List AV) (m : SX) (t : Option (List U)) : Prop := ∀ us, t = some us → ∀ O r M st env, EmA O r M st A env → ∃ M' st' n ws, m env st = .ok (.rt (.ls n)) st' ∧ Nx r M st M' st' ∧ st.length ≤ n ∧ st'[n]? = some (.lst ws) ∧ Ems (fun j => O j ∨ j = n) st' us ws
theorem sl_ret {m : EX} {t : Option (List U)} (h : EL A m t) : SL A (sRet m) t := by
  intro us e O r M st env E
  obtain ⟨n, ws, g, h1, hn, h2, q⟩ := h us e O r M st env E
  exact ⟨M, st ++ g, n, ws, by unfold sRet; simp only [R.bind, h1], Nx.ext g, hn, h2, q.wk fun _ z => z.elim (fun z => .inl (.inl z)) .inr⟩
theorem sl_sn {m n : SX} {t : Option S} {k : S → Option (List U)} (h : SN A m t F) (h2 : ∀ s, SL (F s) n (k s)) : SL A (sSeq m n) (bnd t k) := by
  intro us e O r M st env E
  obtain ⟨x, e1, e⟩ := bnd_ok e
  obtain ⟨M1, s1, env1, k1, N1, E1⟩ := h x e1 O r M st env E
  obtain ⟨M2, s2, i, ws, k2, N2, hi, h3, q⟩ := h2 x us e O r M1 s1 env1 E1
  refine ⟨M2, s2, i, ws, ?_, N1.trans N2, Nat.le_trans N1.le hi, h3, q⟩
  unfold sSeq
  simp only [k1, k2]
theorem sl_A {m : SX} {t : Option (List U)} (e : A = B) (h : SL B m t) : SL A m t := e ▸ h
def FL (f : FX) (P : List U → Option (List U)) : Prop := ∀ us v, P us = some v → ∀ (O : Nat → Prop) (st : Sto) ws, Bd O st → Ems O st us ws → AnsL O st (f ws st) v
def al1 (p : U → Option (List U)) : List U → Option (List U)
  | [a] => p a
  | _ => none
def al2 (p : U → U → Option (List U)) : List U → Option (List U)
  | [a, b] => p a b
  | _ => none
theorem fl_mk {nN np : Nat} {body : SX} {P : List U → Option (List U)} (hb : ∀ us, us.length = np → SL (us.map AV.val ++ List.replicate (nN - np) .no) body (P us)) (hP : ∀ us v, P us = some v → us.length = np) : FL (mkFn nN np body) P := by
  intro us v e O st ws hO h
  have hl := hP us v e
  obtain ⟨M', st', n, wx, h1, N, hn, h2, q⟩ := hb us hl v e O none _ st _ (start hO h (nN - np))
  obtain ⟨g, rfl⟩ := nx_ext N
  have hw : ws.length = np := by rw [← h.length]; exact hl
  refine ⟨n, wx, g, ?_, hn, h2, q⟩
  unfold mkFn
  rw [if_pos hw, h1]
theorem fl_mk2 {nN : Nat} {body : SX} {tb : U → U → Option (List U)} (hb : ∀ a b, SL (.val a :: .val b :: List.replicate (nN - 2) .no) body (tb a b)) : FL (mkFn nN 2 body) (al2 tb) :=
  fl_mk (fun us hl => by match us, hl with | [a, b], _ => exact hb a b) fun us v e => by match us, e with | [a, b], e => rfl
theorem fl_mk1 {nN : Nat} {body : SX} {tb : U → Option (List U)} (hb : ∀ a, SL (.val a :: List.replicate (nN - 1) .no) body (tb a)) : FL (mkFn nN 1 body) (al1 tb) :=
  fl_mk (fun us hl => by match us, hl with | [a], _ => exact hb a) fun us v e => by match us, e with | [a], e => rfl
theorem pureR_emL {rr : R W} {v : List U} (hO : Bd O st) (h : AnsL (fun _ => False) [] rr v) : AnsL O st (pureR st rr) v := by
  obtain ⟨n, ws, g, rfl, _, h1, q⟩ := h
  simp only [List.nil_append] at h1 q ⊢
  unfold pureR
  simp only []
  rw [if_neg (by simp [W.low])]
  simp only [h1]
  by_cases hl : W.lows 0 ws = true
  · rw [if_pos hl]
    exact .new hO rfl (q.low hl)
  · rw [if_neg hl]
    refine ⟨st.length + n, W.ups st.length ws, g.map (Ob.up st.length), rfl, by omega, ?_, q.up fun m z => z.elim (fun z => by have := hO _ z; omega) fun z => by omega⟩
    rw [List.getElem?_append_right (by omega), show st.length + n - st.length = n by omega, List.getElem?_map, h1]
    rfl
theorem trimR_emL {rr : R W} {v : List U} (hO : Bd O st) (h : AnsL O st rr v) : AnsL O st (trimR st.length rr) v := by
  obtain ⟨n, ws, g, rfl, hn, h1, q⟩ := h
  have ht : (st ++ g).take st.length = st := by simp
  unfold trimR
  simp only [ht]
  by_cases hs : st.all (Ob.low st.length) = true
  · rw [if_pos hs]
    rw [if_neg (by simp [W.low, Nat.blt_eq]; exact hn)]
    simp only [h1]
    by_cases hl : W.lows st.length ws = true
    · rw [if_pos hl]
      exact .new hO rfl ((q.cut hs hl).wk fun _ z => .inl z)
    · rw [if_neg hl]
      exact ⟨n, ws, g, rfl, hn, h1, q⟩
  · rw [if_neg hs]
    exact ⟨n, ws, g, rfl, hn, h1, q⟩
theorem fl_call {f : FX} {P : List U → Option (List U)} (h : FL f P) : FL (callM f) P := by
  intro us v e O st ws hO r
  unfold callM
  by_cases hl : W.lows 0 ws = true
  · rw [if_pos hl]
    exact pureR_emL hO (h us v e (fun _ => False) [] ws (fun n z => z.elim) (r.low hl))
  · rw [if_neg hl]
    exact trimR_emL hO (h us v e O st ws hO r)
theorem el_callA {f : FX} {P : List U → Option (List U)} {m : AX} {t : Option (List U)} (h : FL f P) (ha : EA A m t) : EL A (eCall (callM f) m) (bnd t P) := by
  intro u e O r M st env E
  obtain ⟨us, e1, e⟩ := bnd_ok e
  obtain ⟨ws, g, k1, q⟩ := ha us e1 O r M st env E
  have := fl_call h us u e (Zs O M) (st ++ g) ws (E.ext g).bd q
  unfold eCall
  simp only [R.bind, k1]
  exact AnsL.ans this
theorem el_call2 {f : FX} {p : U → U → Option (List U)} {m1 m2 : EX} {t1 t2 : Option U} (h : FL f (al2 p)) (h1 : EV A m1 t1) (h2 : EV A m2 t2) : EL A (eCall (callM f) (aCons m1 (aCons m2 aNil))) (bnd t1 fun a => bnd t2 fun b => p a b) := el_cast (el_callA h (ea_cons h1 (ea_cons h2 ea_nil))) (by cases t1 <;> cases t2 <;> rfl)
theorem el_call1 {f : FX} {p : U → Option (List U)} {m1 : EX} {t1 : Option U} (h : FL f (al1 p)) (h1 : EV A m1 t1) : EL A (eCall (callM f) (aCons m1 aNil)) (bnd t1 p) := el_cast (el_callA h (ea_cons h1 ea_nil)) (by cases t1 <;> rfl)
end
end
end Rx

/-! UxI: sorted(set(..)) over plain values. -/
namespace Rx
open PySem PySem.Spec PyProof.Rows L2
def uInts : List U → Option (List Int)
  | [] => some []
  | .int i :: us => match uInts us with
    | some is => some (i :: is)
    | none => none
  | _ => none
def uTups : List U → Option (List (List Int))
  | [] => some []
  | .tup xs :: us => match uInts xs with
    | some k => match uTups us with
      | some ks => some (k :: ks)
      | none => none
    | none => none
  | _ => none
def tupI (k : List Int) : U := .tup (k.map U.int)
def sortSetL : U → Option (List U)
  | .lst us => match uTups us with
    | some ks => cond (allK ks) (some ((setK ks).map tupI)) none
    | none => none
  | _ => none
section
variable {Z : Nat → Prop} {st : Sto}
theorem uInts_em : ∀ {us : List U} {ws : List W} {k : List Int}, Ems Z st us ws → uInts us = some k → wInts ws = some k
  | _, _, _, .nil, h => h
  | _, _, k, .cons (u := u) (us := us) r rs, h => by
    unfold uInts at h
    split at h
    · rename_i heq; cases heq
    · rename_i i us' heq
      cases heq
      split at h
      · rename_i is e
        cases h
        cases r
        unfold wInts
        rw [uInts_em rs e]
      · cases h
    · cases h
theorem uTups_em : ∀ {us : List U} {ws : List W} {ks : List (List Int)}, Ems Z st us ws → uTups us = some ks → wTups ws = some ks
  | _, _, _, .nil, h => h
  | _, _, k, .cons (u := u) (us := us) r rs, h => by
    unfold uTups at h
    split at h
    · rename_i heq; cases heq
    · rename_i xs us' heq
      cases heq
      split at h
      · rename_i k e
        split at h
        · rename_i ks e2
          cases h
          cases r with
          | tup r =>
            unfold wTups
            rw [uInts_em r e, uTups_em rs e2]
        · cases h
      · cases h
    · cases h
theorem ems_intK : ∀ k : List Int, Ems Z st (k.map U.int) (k.map W.int)
  | [] => .nil
  | i :: k => .cons (.int i) (ems_intK k)
theorem ems_tupK : ∀ ks : List (List Int), Ems Z st (ks.map tupI) (ks.map tupK)
  | [] => .nil
  | k :: ks => .cons (.tup (ems_intK k)) (ems_tupK ks)
end
theorem op_sortSetL : OP1L gSortSet sortSetL := by
  intro a u e Z st wa hZ ha
  cases a with
  | lst us =>
    obtain ⟨n, ws, rfl, e1, r1⟩ := emb_lst ha
    have e' : (match uTups us with
      | some ks => cond (allK ks) (some ((setK ks).map tupI)) none
      | none => none) = some u := e
    cases q : uTups us with
    | none =>
      rw [q] at e'
      cases e'
    | some ks =>
      rw [q] at e'
      obtain ⟨h1, e2⟩ := cond_so e'
      cases e2
      refine .new hZ ?_ (ems_tupK _)
      unfold gSortSet
      simp only [e1, uTups_em r1 q]
      rw [if_pos h1]
  | _ => cases e
end Rx

set_option maxHeartbeats 0
namespace Rx.S
open PySem PySem.Spec PyProof.Rows L2 Rx

noncomputable def u_tupled : Nat → U → Option U
  | 0 => fun _ => none
  | n_ + 1 => fun z0 => retO ((bnd (bnd (bnd (bnd (some z0) fun a1 => blO (bnd (isiT "list" a1) fun a2 => bnd (isiT "tuple" a1) fun a3 => some (a2 || a3))) truU) fun a10 => cond a10 (bnd (bnd (bnd (bnd (some z0) seqU) fun a4 => bnd ((mapU fun x7 => bnd (some x7) fun q6 => (bnd (some q6) fun a8 => (u_tupled n_) a8)) a4) len6) fun a9 => some (.lst a9)) tupleU) (some z0)) fun a11 => some (.rt a11 [])) : Option (Fw Unit Unit))
noncomputable def u_is_number (z0 : U) : Option U := retO ((bnd (bnd (bnd (some z0) fun a1 => blO (isiT "int" a1)) fun a5 => bnd (truU a5) fun a6 => cond a6 (bnd (bnd (some z0) fun a2 => blO (isiT "bool" a2)) fun a3 => bnd (truU a3) fun a4 => some (.bl (!a4))) (some a5)) fun a7 => some (.rt a7 [])) : Option (Fw Unit Unit))
noncomputable def u_is_from (z0 : U) (z1 : U) : Option U := retO ((bnd (bnd (bnd (some z0) fun a1 => S.u_is_number a1) fun a5 => bnd (truU a5) fun a6 => cond a6 (bnd (some z0) fun a3 => bnd (some z1) fun a4 => bnd (geP a3 a4) fun a2 => some (.bl a2)) (some a5)) fun a7 => some (.rt a7 [])) : Option (Fw Unit Unit))
noncomputable def u_is_below (z0 : U) (z1 : U) : Option U := retO ((bnd (bnd (bnd (some z0) fun a1 => bnd (some (.int 0)) fun a2 => S.u_is_from a1 a2) fun a6 => bnd (truU a6) fun a7 => cond a7 (bnd (some z0) fun a4 => bnd (some z1) fun a5 => bnd (ltP a4 a5) fun a3 => some (.bl a3)) (some a6)) fun a8 => some (.rt a8 [])) : Option (Fw Unit Unit))
noncomputable def u_is_links_of (z0 : U) : Option U := retO ((bnd (bnd (bnd (bnd (bnd (some z0) fun a1 => blO (isiT "tuple" a1)) truU) fun a2 => some (!a2)) fun a15 => cond a15 (some true) (bnd (bnd (bnd (some (.int 2)) fun a5 => bnd (bnd (some z0) lenU) fun a6 => bnd (leP a5 a6) fun a7 => cond a7 (bnd (bnd (some (.int 2)) fun a3 => bnd (some (.int 18)) fun a4 => mulU a3 a4) fun a8 => leP a6 a8) (some false)) fun a9 => some (!a9)) fun a14 => cond a14 (some true) (bnd (bnd (bnd (some z0) lenU) fun a10 => bnd (some (.int 2)) fun a11 => modU a10 a11) fun a12 => bnd (some (.int 1)) fun a13 => eqU a12 a13))) fun a16 => cond a16 (bnd (some (.bl false)) fun a17 => some (.rt a17 [])) (bnd (bnd (bnd (bnd (bnd (bnd (bnd (some z0) enumSeq) fun a18 => bnd ((mapU fun x21 => bnd (un2 x21) fun q20 => (bnd (bnd (some q20.2) fun a22 => bnd (bnd (some z0) lenU) fun a23 => S.u_is_below a22 a23) fun a27 => bnd (truU a27) fun a28 => cond a28 (bnd (some q20.2) fun a25 => bnd (some q20.1) fun a26 => bnd (neU a25 a26) fun a24 => some (.bl a24)) (some a27))) a18) len6) fun a29 => some (.lst a29)) fun a30 => blO (allT a30)) truU) fun a31 => some (!a31)) fun a32 => cond a32 (bnd (some (.bl false)) fun a33 => some (.rt a33 [])) (bnd (bnd (bnd (bnd (bnd (bnd (some z0) enumSeq) fun a34 => bnd ((mapU fun x37 => bnd (un2 x37) fun q36 => (bnd (bnd (some z0) fun a38 => bnd (some q36.2) fun a39 => ixU a38 a39) fun a41 => bnd (some q36.1) fun a42 => bnd (neU a41 a42) fun a40 => some (.bl a40))) a34) len6) fun a43 => some (.lst a43)) fun a44 => blO (anyT a44)) truU) fun a45 => cond a45 (bnd (some (.bl false)) fun a46 => some (.rt a46 [])) (bnd (bnd (bnd (bnd (bnd (bnd (bnd (some z0) lenU) fun a47 => bnd (inte a47) fun a47j => ranTo 0 a47j) fun a48 => bnd (catU (fun x51 => bnd (some x51) fun q50 => bnd (bnd (bnd (some z0) lenU) fun a52 => bnd (inte a52) fun a52j => ranTo 0 a52j) (mapU fun x54 => bnd (some x54) fun q53 => (blO (bnd (some q50) fun a59 => bnd (some q53) fun a60 => bnd (ltP a59 a60) fun a61 => cond a61 (bnd (bnd (some z0) fun a55 => bnd (some q50) fun a56 => ixU a55 a56) fun a62 => bnd (ltP a60 a62) fun a63 => cond a63 (bnd (bnd (some z0) fun a57 => bnd (some q53) fun a58 => ixU a57 a58) fun a64 => ltP a62 a64) (some false)) (some false))))) a48) len6) fun a65 => some (.lst a65)) fun a66 => blO (anyT a66)) fun a67 => bnd (truU a67) fun a68 => some (.bl (!a68))) fun a69 => some (.rt a69 []))))) : Option (Fw Unit Unit))
noncomputable def u_sure_links (z0 : U) : Option U := retO ((bnd (bnd (some z0) fun a2 => (S.u_tupled 8) a2) fun v1_1 => (bnd (bnd (bnd (bnd (some v1_1) fun a3 => S.u_is_links_of a3) truU) fun a4 => some (!a4)) fun a5 => cond a5 none (bnd (some v1_1) fun a6 => some (.rt a6 [])))) : Option (Fw Unit Unit))
noncomputable def u_signs_of_links (z0 : U) : Option U := retO ((bnd (bnd (bnd (bnd (bnd (some z0) enumSeq) fun a1 => bnd ((mapU fun x4 => bnd (un2 x4) fun q3 => (bnd (bnd (some q3.2) fun a6 => bnd (some q3.1) fun a7 => bnd (gtP a6 a7) fun a5 => some (.bl a5)) intU)) a1) len6) fun a8 => some (.lst a8)) tupleU) fun a9 => some (.rt a9 [])) : Option (Fw Unit Unit))
noncomputable def u_link_bits (z0 : U) : Option U := retO ((bnd (bnd (bnd (some z0) fun a1 => S.u_sure_links a1) fun a2 => S.u_signs_of_links a2) fun a3 => some (.rt a3 [])) : Option (Fw Unit Unit))
noncomputable def lb_links_by_1  (q9 : U × U) (s8 : List U × List U) : Option (List U × List U) := (bnd (bnd (bnd (some q9.2) fun a12 => bnd (some (.int 1)) fun a13 => eqU a12 a13) fun a14 => cond a14 (bnd (bnd (some q9.1) (appU s8.2)) fun v2_15 => some (s8.1, v2_15)) (bnd (bnd (popU s8.2) fun y18 => some (y18.1, y18.2)) fun v5_17 => (bnd (bnd (bnd (some q9.1) fun a20 => bnd (some v5_17.2) fun a21 => some (.tup [a20, a21])) fun x23 => bnd (un2 x23) fun q22 => (bnd (some v5_17.2) fun a26 => bnd (setU s8.1 a26 q22.1) fun v1_25 => (bnd (some q9.1) fun a28 => bnd (setU v1_25 a28 q22.2) fun v1_27 => (some v1_27)))) fun v1_24 => some (v1_24, v5_17.1)))) fun s11 => some (s11.1, s11.2))
noncomputable def u_links_by (z0 : U) : Option U := retO ((bnd (bnd (bnd (bnd (bnd (some .non) fun a2 => some [a2]) fun a3 => some (.lst a3)) fun a4 => bnd (bnd (some z0) lenU) fun a5 => mulL a4 a5) fun a6 => bnd (some []) fun a7 => some (a6, a7)) fun p1 => (bnd (bnd (bnd (some z0) enumSeq) fun a31 => folU (fun x10 s8 => bnd (un2 x10) fun q9 => (S.lb_links_by_1 q9 s8)) a31 (p1.1, p1.2)) fun s8 => (bnd (bnd (some (.lst s8.1)) tupleU) fun a32 => some (.rt a32 [])))) : Option (Fw Unit Unit))
noncomputable def u_links_of_bits (z0 : U) : Option U := retO ((bnd (bnd (some z0) fun a2 => (S.u_tupled 8) a2) fun v1_1 => (bnd (bnd (bnd (bnd (bnd (some v1_1) fun a3 => blO (isiT "tuple" a3)) truU) fun a4 => some (!a4)) fun a22 => cond a22 (some true) (bnd (bnd (bnd (some (.int 2)) fun a7 => bnd (bnd (some v1_1) lenU) fun a8 => bnd (leP a7 a8) fun a9 => cond a9 (bnd (bnd (some (.int 2)) fun a5 => bnd (some (.int 18)) fun a6 => mulU a5 a6) fun a10 => leP a8 a10) (some false)) fun a11 => some (!a11)) fun a21 => cond a21 (some true) (bnd (bnd (bnd (bnd (bnd (bnd (some v1_1) seqU) fun a12 => bnd ((mapU fun x15 => bnd (some x15) fun q14 => (bnd (some q14) fun a16 => bnd (some (.int 2)) fun a17 => S.u_is_below a16 a17)) a12) len6) fun a18 => some (.lst a18)) fun a19 => blO (allT a19)) truU) fun a20 => some (!a20)))) fun a23 => cond a23 none (bnd (bnd (bnd (bnd (bnd (bnd (some v1_1) lenU) fun a25 => bnd (some (.int 1)) fun a26 => addU a25 a26) fun a27 => bnd (inte a27) fun a27j => ranTo 0 a27j) fun a28 => bnd ((mapU fun x31 => bnd (some x31) fun q30 => (bnd (bnd (some (.int 2)) fun a35 => bnd (bnd (bnd (some v1_1) fun a32 => bnd (some none) fun a33 => bnd (bnd (some q30) asInt) fun a34 => slU a33 a34 a32) sumU) fun a36 => mulU a35 a36) fun a37 => bnd (some q30) fun a38 => subU a37 a38)) a28) len6) fun a39 => some (.lst a39)) fun v2_24 => (bnd (bnd (bnd (bnd (some v2_24) minLU) fun a40 => bnd (some (.int 0)) fun a41 => ltP a40 a41) fun a46 => cond a46 (some true) (bnd (bnd (some v2_24) fun a42 => bnd (bnd (some (.int 1)) negU) fun a43 => ixU a42 a43) fun a44 => bnd (some (.int 0)) fun a45 => neU a44 a45)) fun a47 => cond a47 none (bnd (bnd (some v1_1) fun a48 => S.u_links_by a48) fun a49 => some (.rt a49 [])))))) : Option (Fw Unit Unit))
noncomputable def u_moved_in (z0 : U) (z1 : U) : Option U := retO ((bnd (bnd (bnd (bnd (some z1) fun a2 => bnd (some (.int 1)) fun a3 => addU a2 a3) fun a4 => bnd (bnd (some z0) lenU) fun a5 => modU a4 a5) fun a6 => bnd (bnd (some z0) seqU) fun a7 => some (a6, a7)) fun p1 => (bnd (bnd (bnd (some z0) fun a8 => bnd (some z1) fun a9 => ixU a8 a9) fun a10 => bnd (some p1.1) fun a11 => eqU a10 a11) fun a12 => cond a12 (bnd (some z0) fun a13 => some (.rt a13 [])) (bnd (bnd (bnd (some z0) fun a15 => bnd (some z1) fun a16 => ixU a15 a16) fun a19 => bnd (bnd (some z0) fun a17 => bnd (some p1.1) fun a18 => ixU a17 a18) fun a20 => some (a19, a20)) fun p14 => (bnd (bnd (bnd (some p14.2) fun a21 => bnd (some p14.1) fun a22 => bnd (some p1.1) fun a23 => bnd (some z1) fun a24 => some (.tup [a21, a22, a23, a24])) fun x26 => bnd (un4 x26) fun q25 => (bnd (some p14.1) fun a29 => bnd (setU p1.2 a29 q25.1) fun v3_28 => (bnd (some p14.2) fun a31 => bnd (setU v3_28 a31 q25.2.1) fun v3_30 => (bnd (some z1) fun a33 => bnd (setU v3_30 a33 q25.2.2.1) fun v3_32 => (bnd (some p1.1) fun a35 => bnd (setU v3_32 a35 q25.2.2.2) fun v3_34 => (some v3_34)))))) fun v3_27 => (bnd (bnd (some (.lst v3_27)) tupleU) fun a36 => some (.rt a36 [])))))) : Option (Fw Unit Unit))
noncomputable def u_link_moved (z0 : U) (z1 : U) : Option U := retO ((bnd (bnd (some z0) fun a2 => S.u_sure_links a2) fun v2_1 => (bnd (bnd (bnd (bnd (some z1) fun a3 => bnd (bnd (some v2_1) lenU) fun a4 => S.u_is_below a3 a4) truU) fun a5 => some (!a5)) fun a6 => cond a6 none (bnd (bnd (some v2_1) fun a7 => bnd (some z1) fun a8 => S.u_moved_in a7 a8) fun a9 => some (.rt a9 [])))) : Option (Fw Unit Unit))
noncomputable def u_is_links (z0 : U) : Option U := retO ((bnd (bnd (some z0) fun a1 => S.u_is_links_of a1) fun a2 => some (.rt a2 [])) : Option (Fw Unit Unit))
noncomputable def u_turned_in (z0 : U) (z1 : U) : Option U := retO ((bnd (bnd (some z0) lenU) fun v2_1 => (bnd (bnd (bnd (bnd (bnd (some v2_1) fun a2 => bnd (inte a2) fun a2j => ranTo 0 a2j) fun a3 => bnd ((mapU fun x6 => bnd (some x6) fun q5 => (bnd (bnd (bnd (some z0) fun a11 => bnd (bnd (bnd (some q5) fun a7 => bnd (some z1) fun a8 => subU a7 a8) fun a9 => bnd (some v2_1) fun a10 => modU a9 a10) fun a12 => ixU a11 a12) fun a13 => bnd (some z1) fun a14 => addU a13 a14) fun a15 => bnd (some v2_1) fun a16 => modU a15 a16)) a3) len6) fun a17 => some (.lst a17)) tupleU) fun a18 => some (.rt a18 []))) : Option (Fw Unit Unit))
noncomputable def u_links_turned (z0 : U) (z1 : U) : Option U := retO ((bnd (bnd (some z0) fun a2 => S.u_sure_links a2) fun v2_1 => (bnd (bnd (bnd (bnd (bnd (some z1) fun a3 => bnd (bnd (some (.int 1000)) negU) fun a4 => S.u_is_from a3 a4) truU) fun a5 => some (!a5)) fun a8 => cond a8 (some true) (bnd (some z1) fun a6 => bnd (some (.int 1000)) fun a7 => gtP a6 a7)) fun a9 => cond a9 none (bnd (bnd (some v2_1) fun a10 => bnd (some z1) fun a11 => S.u_turned_in a10 a11) fun a12 => some (.rt a12 [])))) : Option (Fw Unit Unit))
noncomputable def u_links_mirrored (z0 : U) : Option U := retO ((bnd (bnd (some z0) fun a2 => S.u_sure_links a2) fun v1_1 => (bnd (bnd (bnd (bnd (bnd (bnd (some v1_1) revU) seqU) fun a3 => bnd ((mapU fun x6 => bnd (some x6) fun q5 => (bnd (bnd (bnd (some v1_1) lenU) fun a7 => bnd (some (.int 1)) fun a8 => subU a7 a8) fun a9 => bnd (some q5) fun a10 => subU a9 a10)) a3) len6) fun a11 => some (.lst a11)) tupleU) fun a12 => some (.rt a12 []))) : Option (Fw Unit Unit))
noncomputable def u_is_within (z0 : U) (z1 : U) (z2 : U) : Option U := retO ((bnd (bnd (bnd (some z0) fun a1 => bnd (some z1) fun a2 => S.u_is_from a1 a2) fun a6 => bnd (truU a6) fun a7 => cond a7 (bnd (some z0) fun a4 => bnd (some z2) fun a5 => bnd (leP a4 a5) fun a3 => some (.bl a3)) (some a6)) fun a8 => some (.rt a8 [])) : Option (Fw Unit Unit))
noncomputable def u_sure_many (z0 : U) (z1 : U) : Option U := retO ((bnd (bnd (bnd (bnd (some z0) fun a1 => bnd (some (.int 1)) fun a2 => bnd (some z1) fun a3 => S.u_is_within a1 a2 a3) truU) fun a4 => some (!a4)) fun a5 => cond a5 none (bnd (some z0) fun a6 => some (.rt a6 []))) : Option (Fw Unit Unit))
noncomputable def lb_all_bits_1 (z0 : U) (q9 : U) (s5 : U) : Option (U) := (bnd (bnd (bnd (bnd (some s5) seqU) fun a12 => bnd (catU (fun x15 => bnd (some x15) fun q14 => bnd (bnd (bnd (some (.int 0)) fun a18 => bnd (some (.int 1)) fun a19 => some (.tup [a18, a19])) seqU) (filU fun x21 => bnd (some x21) fun q20 => bnd (bnd (bnd (bnd (bnd (some q14) sumU) fun a25 => bnd (some q20) fun a26 => addU a25 a26) fun a27 => bnd (some z0) fun a28 => leP a27 a28) fun a37 => cond a37 (bnd (bnd (some (.int 2)) fun a31 => bnd (bnd (bnd (some q14) sumU) fun a29 => bnd (some q20) fun a30 => addU a29 a30) fun a32 => mulU a31 a32) fun a35 => bnd (bnd (bnd (some q14) lenU) fun a33 => bnd (some (.int 1)) fun a34 => addU a33 a34) fun a36 => geP a35 a36) (some false)) fun a38 => cond a38 (bnd (bnd (some q14) fun a23 => bnd (bnd (some q20) fun a22 => some (.tup [a22])) fun a24 => addU a23 a24) fun a39 => some (some a39)) (some none))) a12) len6) fun a40 => some (.lst a40)) fun v1_11 => some v1_11)
noncomputable def u_all_bits (z0 : U) : Option U := retO ((bnd (bnd (bnd (bnd (some []) fun a2 => cond (len5 a2.length) (some (.tup a2)) none) fun a3 => some [a3]) fun a4 => some (.lst a4)) fun v1_1 => (bnd (bnd (bnd (bnd (some (.int 2)) fun a6 => bnd (some z0) fun a7 => mulU a6 a7) fun a8 => bnd (inte a8) fun a8j => ranTo 0 a8j) fun a42 => folU (fun x10 s5 => bnd (some x10) fun q9 => (S.lb_all_bits_1 z0 q9 s5)) a42 v1_1) fun s5 => (bnd (some s5) fun a43 => some (.rt a43 [])))) : Option (Fw Unit Unit))
noncomputable def u_all_links_in (z0 : U) : Option U := retO ((bnd (bnd (bnd (bnd (bnd (bnd (bnd (some z0) fun a2 => S.u_all_bits a2) seqU) fun a3 => bnd ((mapU fun x6 => bnd (some x6) fun q5 => (bnd (some q5) fun a7 => S.u_links_by a7)) a3) len6) fun a8 => some (.lst a8)) sortedL) fun a9 => some (.lst a9)) fun a10 => some (.rt a10 [])) : Option (Fw Unit Unit))
noncomputable def u_all_links (z0 : U) : Option U := retO ((bnd (bnd (bnd (some z0) fun a1 => bnd (some (.int 18)) fun a2 => S.u_sure_many a1 a2) fun a3 => bnd (some (.int 8)) fun a4 => gtP a3 a4) fun a5 => cond a5 none (bnd (bnd (some z0) fun a6 => S.u_all_links_in a6) fun a7 => some (.rt a7 []))) : Option (Fw Unit Unit))
noncomputable def lb_picks_1 (z0 : U) (q4 : U) (s2 : U) : Option (U) := (bnd (bnd (bnd (some s2) fun a9 => bnd (bnd (some z0) fun a7 => bnd (some q4) fun a8 => subU a7 a8) fun a10 => mulU a9 a10) fun a13 => bnd (bnd (some q4) fun a11 => bnd (some (.int 1)) fun a12 => addU a11 a12) fun a14 => divU a13 a14) fun v2_6 => some v2_6)
noncomputable def u_picks (z0 : U) (z1 : U) : Option U := retO ((bnd (some (.int 1)) fun v2_1 => (bnd (bnd (bnd (some z1) fun a3 => bnd (inte a3) fun a3j => ranTo 0 a3j) fun a16 => folU (fun x5 s2 => bnd (some x5) fun q4 => (S.lb_picks_1 z0 q4 s2)) a16 v2_1) fun s2 => (bnd (some s2) fun a17 => some (.rt a17 [])))) : Option (Fw Unit Unit))
noncomputable def u_how_many_links (z0 : U) : Option U := retO ((bnd (bnd (some z0) fun a2 => bnd (some (.int 60)) fun a3 => S.u_sure_many a2 a3) fun v1_1 => (bnd (bnd (bnd (bnd (some (.int 2)) fun a4 => bnd (some v1_1) fun a5 => mulU a4 a5) fun a6 => bnd (some v1_1) fun a7 => S.u_picks a6 a7) fun a10 => bnd (bnd (some v1_1) fun a8 => bnd (some (.int 1)) fun a9 => addU a8 a9) fun a11 => divU a10 a11) fun a12 => some (.rt a12 []))) : Option (Fw Unit Unit))
noncomputable def u_links_beside (z0 : U) : Option U := retO ((bnd (bnd (some z0) fun a2 => S.u_sure_links a2) fun v1_1 => (bnd (bnd (bnd (bnd (bnd (some v1_1) lenU) fun a3 => bnd (inte a3) fun a3j => ranTo 0 a3j) fun a4 => bnd ((mapU fun x7 => bnd (some x7) fun q6 => (bnd (some v1_1) fun a8 => bnd (some q6) fun a9 => S.u_moved_in a8 a9)) a4) len6) fun a10 => some (.lst a10)) fun a11 => some (.rt a11 []))) : Option (Fw Unit Unit))
noncomputable def u_nested_links (z0 : U) : Option U := retO ((bnd (bnd (some z0) fun a2 => bnd (some (.int 18)) fun a3 => S.u_sure_many a2 a3) fun v1_1 => (bnd (bnd (bnd (bnd (bnd (some (.int 2)) fun a4 => bnd (some v1_1) fun a5 => mulU a4 a5) fun a6 => bnd (some (.int 1)) fun a7 => subU a6 a7) fun a8 => bnd (bnd (some (.int 1)) negU) fun a9 => bnd (inte a8) fun a8j => bnd (inte a9) fun a9j => ranDn a8j a9j) fun a10 => some (.tup a10)) fun a11 => some (.rt a11 []))) : Option (Fw Unit Unit))
noncomputable def u_short_links (z0 : U) : Option U := retO ((bnd (bnd (some z0) fun a2 => bnd (some (.int 18)) fun a3 => S.u_sure_many a2 a3) fun v1_1 => (bnd (bnd (bnd (bnd (bnd (bnd (some (.int 2)) fun a4 => bnd (some v1_1) fun a5 => mulU a4 a5) fun a6 => bnd (inte a6) fun a6j => ranTo 0 a6j) fun a7 => bnd ((mapU fun x10 => bnd (some x10) fun q9 => (bnd (bnd (some q9) fun a11 => bnd (some (.int 1)) fun a12 => addU a11 a12) fun a17 => bnd (bnd (some (.int 2)) fun a15 => bnd (bnd (some q9) fun a13 => bnd (some (.int 2)) fun a14 => modU a13 a14) fun a16 => mulU a15 a16) fun a18 => subU a17 a18)) a7) len6) fun a19 => some (.lst a19)) tupleU) fun a20 => some (.rt a20 []))) : Option (Fw Unit Unit))
noncomputable def u__law_take (z0 : List U) (z1 : U) : Option (List U × U) := retR ((bnd (bnd (bnd (some (.lst z0)) fun a1 => bnd (some (.int 0)) fun a2 => ixU a1 a2) fun a3 => bnd (some (.int 0)) fun a4 => gtP a3 a4) fun a5 => cond a5 (bnd (bnd (bnd (bnd (some (.lst z0)) fun a7 => bnd (some (.int 0)) fun a8 => ixU a7 a8) intU) fun a9 => bnd (some z1) fun a10 => modU a9 a10) fun v2_6 => (bnd (bnd (bnd (bnd (some (.lst z0)) fun a11 => bnd (some (.int 0)) fun a12 => ixU a11 a12) fun a13 => bnd (some z1) fun a14 => divU a13 a14) fun a16 => bnd (some (.int 0)) fun a17 => setU z0 a17 a16) fun v0_15 => (bnd (some v2_6) fun a18 => some (.rt a18 v0_15)))) (bnd (bnd (bnd (bnd (some (.lst z0)) fun a19 => bnd (some (.int 2)) fun a20 => ixU a19 a20) fun a21 => bnd (some (.int 1)) fun a22 => addU a21 a22) fun a24 => bnd (some (.int 2)) fun a25 => setU z0 a25 a24) fun v0_23 => (bnd (bnd (bnd (bnd (bnd (bnd (some (.lst v0_23)) fun a27 => bnd (some (.int 1)) fun a28 => ixU a27 a28) fun a33 => bnd (bnd (some (.int 48271)) fun a31 => bnd (bnd (some (.lst v0_23)) fun a29 => bnd (some (.int 2)) fun a30 => ixU a29 a30) fun a32 => mulU a31 a32) fun a34 => addU a33 a34) fun a39 => bnd (bnd (some (.int 39373)) fun a37 => bnd (bnd (some (.lst v0_23)) fun a35 => bnd (some (.int 2)) fun a36 => ixU a35 a36) fun a38 => addU a37 a38) fun a40 => mulU a39 a40) intU) fun a41 => bnd (some (.int 2147483647)) fun a42 => modU a41 a42) fun v3_26 => (bnd (bnd (bnd (bnd (some v3_26) intU) fun a44 => bnd (some (.int 40009)) fun a45 => modU a44 a45) fun a46 => bnd (some (.int 7)) fun a47 => addU a46 a47) fun v4_43 => (bnd (bnd (bnd (bnd (bnd (bnd (some v3_26) fun a51 => bnd (bnd (some (.lst v0_23)) fun a49 => bnd (some (.int 2)) fun a50 => ixU a49 a50) fun a52 => addU a51 a52) fun a57 => bnd (bnd (bnd (some (.lst v0_23)) fun a53 => bnd (some (.int 1)) fun a54 => ixU a53 a54) fun a55 => bnd (some (.int 1000003)) fun a56 => divU a55 a56) fun a58 => addU a57 a58) fun a59 => bnd (some v4_43) fun a60 => mulU a59 a60) intU) fun a61 => bnd (some (.int 2147483629)) fun a62 => modU a61 a62) fun v5_48 => (bnd (bnd (bnd (bnd (bnd (bnd (bnd (bnd (some v5_48) fun a63 => bnd (some (.int 48271)) fun a64 => mulU a63 a64) fun a65 => bnd (some v3_26) fun a66 => addU a65 a66) intU) fun a67 => bnd (some (.int 2147483587)) fun a68 => modU a67 a68) fun a69 => bnd (some (.int 64)) fun a70 => divU a69 a70) intU) fun a71 => bnd (some z1) fun a72 => modU a71 a72) fun a73 => some (.rt a73 v0_23))))))) : Option (Fw Unit Unit))
noncomputable def lb__law_all_links_1 (q23 : U) (q16 : U) (q38 : U) (s25 : List U) : Option (List U) := (bnd (bnd (bnd (bnd (some q23) seqU) fun a41 => bnd ((mapU fun x44 => bnd (some x44) fun q43 => (bnd (some q43) fun a45 => bnd (some (.int 1)) fun a46 => addU a45 a46)) a41) len6) fun a47 => some (.lst a47)) fun v7_40 => (bnd (bnd (bnd (bnd (bnd (bnd (bnd (bnd (bnd (bnd (some (.int 2)) fun a49 => bnd (some q16) fun a50 => mulU a49 a50) fun a51 => bnd (some (.int 1)) fun a52 => addU a51 a52) fun a53 => some [a53]) fun a54 => some (.lst a54)) fun a55 => bnd (some v7_40) fun a56 => addU a55 a56) fun a59 => bnd (bnd (bnd (some (.int 0)) fun a57 => some [a57]) fun a58 => some (.lst a58)) fun a60 => addU a59 a60) fun a72 => bnd (bnd (bnd (bnd (some q38) seqU) fun a61 => bnd ((mapU fun x64 => bnd (some x64) fun q63 => (bnd (bnd (some q63) fun a67 => bnd (bnd (some (.int 2)) fun a65 => bnd (some q16) fun a66 => mulU a65 a66) fun a68 => addU a67 a68) fun a69 => bnd (some (.int 2)) fun a70 => addU a69 a70)) a61) len6) fun a71 => some (.lst a71)) fun a73 => addU a72 a73) tupleU) (appU s25)) fun v3_48 => some v3_48))
noncomputable def lb__law_all_links_2 (s6 : List U) (q11 : U) (q16 : U) (q23 : U) (s18 : List U) : Option (List U) := (bnd (bnd (bnd (bnd (some (.lst s6)) fun a36 => bnd (bnd (bnd (some q11) fun a32 => bnd (some (.int 1)) fun a33 => subU a32 a33) fun a34 => bnd (some q16) fun a35 => subU a34 a35) fun a37 => ixU a36 a37) seqU) fun a75 => folU (fun x39 s25 => bnd (some x39) fun q38 => (S.lb__law_all_links_1 q23 q16 q38 s25)) a75 s18) fun s25 => some s25)
noncomputable def lb__law_all_links_3 (s6 : List U) (q11 : U) (q16 : U) (s14 : List U) : Option (List U) := (bnd (bnd (bnd (bnd (some (.lst s6)) fun a21 => bnd (some q16) fun a22 => ixU a21 a22) seqU) fun a77 => folU (fun x24 s18 => bnd (some x24) fun q23 => (S.lb__law_all_links_2 s6 q11 q16 q23 s18)) a77 s14) fun s18 => some s18)
noncomputable def lb__law_all_links_4  (q11 : U) (s6 : List U) : Option (List U) := (bnd (some []) fun v3_13 => (bnd (bnd (bnd (some q11) fun a15 => bnd (inte a15) fun a15j => ranTo 0 a15j) fun a79 => folU (fun x17 s14 => bnd (some x17) fun q16 => (S.lb__law_all_links_3 s6 q11 q16 s14)) a79 v3_13) fun s14 => (bnd (bnd (some (.lst s14)) (appU s6)) fun v1_80 => some v1_80)))
noncomputable def u__law_all_links (z0 : U) : Option U := retO ((bnd (bnd (bnd (bnd (bnd (some []) fun a2 => cond (len5 a2.length) (some (.tup a2)) none) fun a3 => some [a3]) fun a4 => some (.lst a4)) fun a5 => some [a5]) fun v1_1 => (bnd (bnd (bnd (some (.int 1)) fun a9 => bnd (bnd (some z0) fun a7 => bnd (some (.int 1)) fun a8 => addU a7 a8) fun a10 => bnd (inte a9) fun a9j => bnd (inte a10) fun a10j => ranTo a9j a10j) fun a82 => folU (fun x12 s6 => bnd (some x12) fun q11 => (S.lb__law_all_links_4 q11 s6)) a82 v1_1) fun s6 => (bnd (bnd (bnd (bnd (some (.lst s6)) fun a83 => bnd (some z0) fun a84 => ixU a83 a84) sortedL) fun a85 => some (.lst a85)) fun a86 => some (.rt a86 [])))) : Option (Fw Unit Unit))
noncomputable def u__law_of (z0 : List U) (z1 : U) : Option (List U × U) := retR ((bnd (bnd (bnd (some z1) fun a5 => some (z0, a5)) fun x1 => bnd (bnd (bnd (bnd (bnd (some z1) lenU) fun a9 => bnd (some []) fun a10 => some (a9 :: a10)) fun a11 => some (x1.1, a11)) fun x7 => bnd (bp1 S.u__law_take x7.1 x7.2) fun y8 => some (y8.1, y8.2)) fun y2 => bnd (ixU x1.2 y2.2) fun a3 => some (y2.1, a3)) fun x19 => some (.rt x19.2 x19.1)) : Option (Fw Unit Unit))
noncomputable def lb__law_cells_1 (z1 : U) (q15 : U × U) (s8 : List U) : Option (List U) := (bnd (bnd (bnd (some q15.1) intU) fun a18 => bnd (some z1) fun a19 => modU a18 a19) fun v5_17 => (bnd (bnd (bnd (bnd (some (.lst s8)) fun a20 => bnd (some v5_17) fun a21 => ixU a20 a21) fun a26 => bnd (bnd (some q15.2) fun a24 => bnd (bnd (some q15.1) fun a22 => bnd (some (.int 2)) fun a23 => addU a22 a23) fun a25 => mulU a24 a25) fun a27 => addU a26 a27) fun a29 => bnd (some v5_17) fun a30 => setU s8 a30 a29) fun v2_28 => some v2_28))
noncomputable def u__law_cells (z0 : U) (z1 : U) : Option U := retO ((bnd (bnd (bnd (bnd (some z0) fun a2 => bnd (some none) fun a3 => bnd (bnd (some z1) asInt) fun a4 => slU a3 a4 a2) seqU) fun a6 => bnd (truU (.lst a6)) fun a7 => cond a7 (some a6) (bnd (some (.int 0)) fun a5 => some [a5])) fun v2_1 => (bnd (bnd (bnd (bnd (some z0) fun a12 => bnd (bnd (some z1) asInt) fun a13 => bnd (bnd (some (.int 63)) asInt) fun a14 => slU a13 a14 a12) enumSeq) fun a32 => folU (fun x16 s8 => bnd (un2 x16) fun q15 => (S.lb__law_cells_1 z1 q15 s8)) a32 v2_1) fun s8 => (bnd (some (.lst s8)) fun a33 => some (.rt a33 [])))) : Option (Fw Unit Unit))
noncomputable def ul__law_box_k70 (z0 : U) (z1 : U) : Option (List U) := (bnd (bnd (bnd (some z1) fun a2 => bnd (bnd (some z0) lenU) fun a3 => ltP a2 a3) fun a6 => cond a6 (bnd (some z0) fun a4 => bnd (some z1) fun a5 => ixU a4 a5) (some (.int 0))) fun v2_1 => (bnd (bnd (bnd (bnd (some v2_1) absU) fun a12 => bnd (bnd (bnd (bnd (some v2_1) absU) fun a10 => bnd (bnd (some (.int 10)) fun a7 => bnd (some (.int 18)) fun a8 => powU a7 a8) fun a11 => bnd (geP a10 a11) fun a9 => some (.bl a9)) intU) fun a13 => mulU a12 a13) fun a26 => bnd (bnd (bnd (bnd (bnd (bnd (some v2_1) intU) fun a14 => bnd (some (.int 2305843009213693951)) fun a15 => modU a14 a15) fun a18 => bnd (bnd (some (.int 39373)) fun a16 => bnd (some z1) fun a17 => mulU a16 a17) fun a19 => addU a18 a19) fun a20 => bnd (some (.int 9172070)) fun a21 => addU a20 a21) fun a24 => bnd (bnd (some (.int 0)) fun a22 => bnd (some []) fun a23 => some (a22 :: a23)) fun a25 => some (a24 :: a25)) fun a27 => some (a26 :: a27)) fun a28 => cond (len5 a28.length) (some a28) none))
noncomputable def u__law_box_k70 (z0 : U) (z1 : U) : Option U := retO ((bnd (bnd (bnd (some z1) fun a2 => bnd (bnd (some z0) lenU) fun a3 => ltP a2 a3) fun a6 => cond a6 (bnd (some z0) fun a4 => bnd (some z1) fun a5 => ixU a4 a5) (some (.int 0))) fun v2_1 => (bnd (bnd (bnd (bnd (bnd (bnd (some v2_1) absU) fun a12 => bnd (bnd (bnd (bnd (some v2_1) absU) fun a10 => bnd (bnd (some (.int 10)) fun a7 => bnd (some (.int 18)) fun a8 => powU a7 a8) fun a11 => bnd (geP a10 a11) fun a9 => some (.bl a9)) intU) fun a13 => mulU a12 a13) fun a26 => bnd (bnd (bnd (bnd (bnd (bnd (some v2_1) intU) fun a14 => bnd (some (.int 2305843009213693951)) fun a15 => modU a14 a15) fun a18 => bnd (bnd (some (.int 39373)) fun a16 => bnd (some z1) fun a17 => mulU a16 a17) fun a19 => addU a18 a19) fun a20 => bnd (some (.int 9172070)) fun a21 => addU a20 a21) fun a24 => bnd (bnd (some (.int 0)) fun a22 => bnd (some []) fun a23 => some (a22 :: a23)) fun a25 => some (a24 :: a25)) fun a27 => some (a26 :: a27)) fun a28 => cond (len5 a28.length) (some a28) none) fun a29 => some (.lst a29)) fun a30 => some (.rt a30 []))) : Option (Fw Unit Unit))
noncomputable def lb_law_k70_1 (v3_9 : (List U) × U) (q145 : U) (s144 : Unit) : Option (Fw (Unit) (Unit)) := (bnd (bnd (some q145) fun a148 => S.u_link_bits a148) fun v10_147 => (bnd (bnd (bnd (bnd (some v10_147) fun a149 => S.u_links_of_bits a149) fun a150 => bnd (some q145) fun a151 => neU a150 a151) fun a175 => cond a175 (some true) (bnd (bnd (bnd (some v10_147) sumU) fun a152 => bnd (some v3_9.2) fun a153 => neU a152 a153) fun a174 => cond a174 (some true) (bnd (bnd (bnd (bnd (bnd (some (.int 2)) fun a154 => bnd (some v3_9.2) fun a155 => mulU a154 a155) fun a156 => bnd (inte a156) fun a156j => ranTo 0 a156j) fun a157 => bnd ((filU fun x160 => bnd (some x160) fun q159 => bnd (bnd (bnd (bnd (bnd (some v10_147) fun a161 => bnd (some none) fun a162 => bnd (bnd (some q159) asInt) fun a163 => slU a162 a163 a161) sumU) fun a164 => bnd (some (.int 2)) fun a165 => mulU a164 a165) fun a166 => bnd (some q159) fun a167 => ltP a166 a167) fun a168 => cond a168 (bnd (some q159) fun a169 => some (some a169)) (some none)) a157) len6) fun a170 => some (.lst a170)) fun a172 => bnd (bnd (some []) fun a171 => some (.lst a171)) fun a173 => neU a172 a173))) fun a176 => cond a176 (bnd (some (.bl false)) fun a177 => some (.rt a177 [])) (some (.nx ()))))
noncomputable def rb_law_k70_2 (v3_9 : (List U) × U) (v4_29 : (List U) × U) (p38 : (List U) × U × U) : Option (Fw (List U) (List U)) := (bnd (bnd (bnd (some p38.2.1) fun a109 => bnd (some (.int 1)) fun a110 => addU a109 a110) fun a113 => bnd (bnd (some (.int 2)) fun a111 => bnd (some v3_9.2) fun a112 => mulU a111 a112) fun a114 => modU a113 a114) fun v7_108 => (bnd (bnd (some v4_29.2) fun a116 => bnd (some p38.2.1) fun a117 => S.u_link_moved a116 a117) fun v8_115 => (bnd (bnd (bnd (bnd (some v8_115) fun a118 => S.u_is_links a118) fun a119 => bnd (some (.bl true)) fun a120 => isNotU a119 a120) fun a141 => cond a141 (some true) (bnd (bnd (bnd (some v8_115) fun a121 => bnd (some p38.2.1) fun a122 => ixU a121 a122) fun a123 => bnd (some v7_108) fun a124 => neU a123 a124) fun a140 => cond a140 (some true) (bnd (bnd (bnd (some v8_115) fun a125 => bnd (some v7_108) fun a126 => ixU a125 a126) fun a127 => bnd (some p38.2.1) fun a128 => neU a127 a128) fun a139 => cond a139 (some true) (bnd (bnd (some v8_115) fun a130 => bnd (some v4_29.2) fun a131 => bnd (eqU a130 a131) fun a129 => some (.bl a129)) fun a137 => bnd (bnd (bnd (some v4_29.2) fun a132 => bnd (some p38.2.1) fun a133 => ixU a132 a133) fun a135 => bnd (some v7_108) fun a136 => bnd (eqU a135 a136) fun a134 => some (.bl a134)) fun a138 => neU a137 a138)))) fun a142 => cond a142 (bnd (some (.bl false)) fun a143 => some (.rt a143 [])) (seqF (bnd (bnd (bnd (some v4_29.2) fun a189 => bnd (some v8_115) fun a190 => bnd (bnd (some v4_29.2) fun a186 => bnd (some p38.2.2) fun a187 => S.u_links_turned a186 a187) fun a191 => bnd (bnd (some v4_29.2) fun a188 => S.u_links_mirrored a188) fun a192 => some (.tup [a189, a190, a191, a192])) seqU) fun a178 => forU (fun x146 s144 => bnd (some x146) fun q145 => (S.lb_law_k70_1 v3_9 q145 s144)) a178 ()) fun s144 => (bnd (bnd (bnd (bnd (bnd (some v4_29.2) fun a193 => bnd (some p38.2.2) fun a194 => S.u_links_turned a193 a194) fun a197 => bnd (bnd (some (.int 0)) fun a195 => bnd (some p38.2.2) fun a196 => subU a195 a196) fun a198 => S.u_links_turned a197 a198) fun a199 => bnd (some v4_29.2) fun a200 => neU a199 a200) fun a212 => cond a212 (some true) (bnd (bnd (bnd (bnd (some v4_29.2) fun a201 => S.u_links_mirrored a201) fun a202 => S.u_links_mirrored a202) fun a203 => bnd (some v4_29.2) fun a204 => neU a203 a204) fun a211 => cond a211 (some true) (bnd (bnd (some v4_29.2) fun a207 => bnd (bnd (some (.int 2)) fun a205 => bnd (some v3_9.2) fun a206 => mulU a205 a206) fun a208 => S.u_links_turned a207 a208) fun a209 => bnd (some v4_29.2) fun a210 => neU a209 a210))) fun a213 => cond a213 (bnd (some (.bl false)) fun a214 => some (.rt a214 [])) (bnd (bnd (bnd (bnd (bnd (some v4_29.2) fun a215 => S.u_links_mirrored a215) fun a216 => S.u_link_bits a216) fun a226 => bnd (bnd (bnd (bnd (bnd (bnd (bnd (some v4_29.2) fun a218 => S.u_link_bits a218) revU) seqU) fun a219 => bnd ((mapU fun x222 => bnd (some x222) fun q221 => (bnd (some (.int 1)) fun a223 => bnd (some q221) fun a224 => subU a223 a224)) a219) len6) fun a225 => some (.lst a225)) tupleU) fun a227 => neU a226 a227) fun a242 => cond a242 (some true) (bnd (bnd (bnd (some v4_29.2) fun a228 => bnd (some (.int 1)) fun a229 => S.u_links_turned a228 a229) fun a236 => bnd (bnd (bnd (some p38.2.1) fun a230 => bnd (some (.int 1)) fun a231 => addU a230 a231) fun a234 => bnd (bnd (some (.int 2)) fun a232 => bnd (some v3_9.2) fun a233 => mulU a232 a233) fun a235 => modU a234 a235) fun a237 => S.u_link_moved a236 a237) fun a240 => bnd (bnd (some v8_115) fun a238 => bnd (some (.int 1)) fun a239 => S.u_links_turned a238 a239) fun a241 => neU a240 a241)) fun a243 => cond a243 (bnd (some (.bl false)) fun a244 => some (.rt a244 [])) (seqF (bnd (bnd (some v3_9.2) fun a246 => bnd (some (.int 1)) fun a247 => gtP a246 a247) fun a248 => cond a248 (bnd (bnd (bnd (bnd (bnd (some v3_9.2) fun a251 => S.u_all_links a251) seqU) fun a252 => bnd ((filU fun x255 => bnd (some x255) fun q254 => bnd (bnd (bnd (some q254) fun a256 => bnd (some p38.2.1) fun a257 => ixU a256 a257) fun a258 => bnd (some v7_108) fun a259 => eqU a258 a259) fun a260 => cond a260 (bnd (some q254) fun a261 => some (some a261)) (some none)) a252) len6) fun a262 => some (.lst a262)) fun v11_249 => (bnd (bnd (bnd (bnd (some v11_249) lenU) fun a266 => bnd (bnd (bnd (some v3_9.2) fun a263 => bnd (some (.int 1)) fun a264 => subU a263 a264) fun a265 => S.u_how_many_links a265) fun a267 => neU a266 a267) fun a280 => cond a280 (some true) (bnd (bnd (bnd (bnd (bnd (bnd (bnd (some v3_9.2) fun a269 => S.u_all_links a269) seqU) fun a270 => bnd ((mapU fun x273 => bnd (some x273) fun q272 => (bnd (some q272) fun a274 => bnd (some p38.2.1) fun a275 => S.u_link_moved a274 a275)) a270) len6) fun a276 => some (.lst a276)) sortSetL) fun a277 => some (.lst a277)) fun a278 => bnd (some v11_249) fun a279 => neU a278 a279)) fun a281 => cond a281 (bnd (some (.bl false)) fun a282 => some (.rt a282 [])) (some (.nx ())))) (some (.nx ()))) fun s245 => (bnd (bnd (bnd (bnd (bnd (bnd (bnd (some v4_29.2) fun a284 => S.u_links_beside a284) enumSeq) fun a285 => bnd ((filU fun x288 => bnd (un2 x288) fun q287 => bnd (bnd (some q287.2) fun a289 => bnd (some v4_29.2) fun a290 => eqU a289 a290) fun a291 => cond a291 (bnd (some q287.1) fun a292 => some (some a292)) (some none)) a285) len6) fun a293 => some (.lst a293)) lenU) fun a314 => bnd (bnd (bnd (bnd (bnd (bnd (some (.int 2)) fun a294 => bnd (some v3_9.2) fun a295 => mulU a294 a295) fun a296 => bnd (inte a296) fun a296j => ranTo 0 a296j) fun a297 => bnd ((filU fun x300 => bnd (some x300) fun q299 => bnd (bnd (bnd (some v4_29.2) fun a301 => bnd (some q299) fun a302 => ixU a301 a302) fun a309 => bnd (bnd (bnd (some q299) fun a303 => bnd (some (.int 1)) fun a304 => addU a303 a304) fun a307 => bnd (bnd (some (.int 2)) fun a305 => bnd (some v3_9.2) fun a306 => mulU a305 a306) fun a308 => modU a307 a308) fun a310 => eqU a309 a310) fun a311 => cond a311 (bnd (some q299) fun a312 => some (some a312)) (some none)) a297) len6) fun a313 => some (.lst a313)) lenU) fun a315 => neU a314 a315) fun a316 => cond a316 (bnd (some (.bl false)) fun a317 => some (.rt a317 [])) (bnd (bnd (bnd (some v3_9.2) fun a319 => S.u_nested_links a319) fun a321 => bnd (bnd (some v3_9.2) fun a320 => S.u_short_links a320) fun a322 => some (a321, a322)) fun p318 => (bnd (bnd (bnd (bnd (some p318.1) fun a323 => S.u_links_mirrored a323) fun a324 => bnd (some p318.1) fun a325 => neU a324 a325) fun a339 => cond a339 (some true) (bnd (bnd (bnd (some p318.2) fun a326 => bnd (some (.int 2)) fun a327 => S.u_links_turned a326 a327) fun a328 => bnd (some p318.2) fun a329 => neU a328 a329) fun a338 => cond a338 (some true) (bnd (bnd (bnd (some p318.2) fun a330 => S.u_links_mirrored a330) fun a331 => bnd (some p318.2) fun a332 => neU a331 a332) fun a337 => cond a337 (some true) (bnd (bnd (some p318.1) fun a333 => bnd (some v3_9.2) fun a334 => S.u_links_turned a333 a334) fun a335 => bnd (some p318.1) fun a336 => neU a335 a336)))) fun a340 => cond a340 (bnd (some (.bl false)) fun a341 => some (.rt a341 [])) (some (.nx p38.1))))))))))))
noncomputable def rb_law_k70_3 (v3_9 : (List U) × U) (v4_29 : (List U) × U) : Option (Fw (List U) (List U)) := (bnd (bnd (bnd (bnd (bnd (bnd (bnd (bnd (some (.int 2)) fun a44 => bnd (some v3_9.2) fun a45 => mulU a44 a45) fun a46 => bnd (some []) fun a47 => some (a46 :: a47)) fun a48 => some (v4_29.1, a48)) fun x42 => bnd (bp1 S.u__law_take x42.1 x42.2) fun y43 => some (y43.1, y43.2)) fun x39 => bnd (bnd (bnd (bnd (bnd (bnd (bnd (bnd (some (.int 4)) fun a59 => bnd (some v3_9.2) fun a60 => mulU a59 a60) fun a61 => bnd (some (.int 1)) fun a62 => addU a61 a62) fun a63 => bnd (some []) fun a64 => some (a63 :: a64)) fun a65 => some (x39.1, a65)) fun x57 => bnd (bp1 S.u__law_take x57.1 x57.2) fun y58 => some (y58.1, y58.2)) fun x53 => bnd (bnd (bnd (some (.int 2)) fun a67 => bnd (some v3_9.2) fun a68 => mulU a67 a68) fun a69 => some (x53.1, a69)) fun y54 => bnd (subU x53.2 y54.2) fun a55 => some (y54.1, a55)) fun x50 => bnd (some (x50.1, [])) fun y51 => some (y51.1, x50.2 :: y51.2)) fun y40 => some (y40.1, x39.2 :: y40.2)) fun x102 => cond (len5 x102.2.length) (some (x102.1, .tup x102.2)) none) fun x103 => bnd (un2 x103.2) fun q104 => some (x103.1, q104)) fun p38 => (S.rb_law_k70_2 v3_9 v4_29 p38))
noncomputable def rb_law_k70_4  (v3_9 : (List U) × U) : Option (Fw (List U) (List U)) := (bnd (bnd (bnd (bnd (bnd (some v3_9.2) fun a32 => S.u__law_all_links a32) fun a33 => bnd (some []) fun a34 => some (a33 :: a34)) fun a35 => some (v3_9.1, a35)) fun x30 => bnd (bp1 S.u__law_of x30.1 x30.2) fun y31 => some (y31.1, y31.2)) fun v4_29 => (S.rb_law_k70_3 v3_9 v4_29))
noncomputable def lb_law_k70_5  (q7 : U) (s6 : List U) : Option (Fw (List U) (List U)) := (bnd (bnd (bnd (some (.int 1)) fun a14 => some (s6, a14)) fun x10 => bnd (bnd (bnd (bnd (some (.int 6)) fun a18 => bnd (some []) fun a19 => some (a18 :: a19)) fun a20 => some (x10.1, a20)) fun x16 => bnd (bp1 S.u__law_take x16.1 x16.2) fun y17 => some (y17.1, y17.2)) fun y11 => bnd (addU x10.2 y11.2) fun a12 => some (y11.1, a12)) fun v3_9 => (S.rb_law_k70_4 v3_9))
noncomputable def lb_law_k70_6  (q349 : U) (s346 : List U) : Option (List U) := (bnd (bnd (bnd (bnd (bnd (bnd (some q349) fun a352 => bnd (inte a352) fun a352j => ranTo 0 a352j) fun a353 => bnd ((mapU fun x356 => bnd (some x356) fun q355 => (bnd (bnd (some (.lst s346)) fun a357 => bnd (some q355) fun a358 => ixU a357 a358) fun a365 => bnd (bnd (some (.lst s346)) fun a363 => bnd (bnd (bnd (some q349) fun a359 => bnd (some (.int 1)) fun a360 => subU a359 a360) fun a361 => bnd (some q355) fun a362 => subU a361 a362) fun a364 => ixU a363 a364) fun a366 => mulU a365 a366)) a353) len6) fun a367 => some (.lst a367)) sumU) (appU s346)) fun v14_351 => some v14_351)
noncomputable def u_law_k70 (z0 : U) : Option U := retO ((bnd (bnd (bnd (some z0) fun a2 => bnd (some (.int 1)) fun a3 => S.u__law_cells a2 a3) fun a4 => bnd (some (.int 0)) fun a5 => S.ul__law_box_k70 a4 a5) fun v1_1 => (seqF (bnd (bnd (some (.int 4)) fun a343 => bnd (inte a343) fun a343j => ranTo 0 a343j) fun a342 => forU (fun x8 s6 => bnd (some x8) fun q7 => (S.lb_law_k70_5 q7 s6)) a342 v1_1) fun s6 => (bnd (bnd (some (.int 1)) fun a345 => some [a345]) fun v14_344 => (bnd (bnd (bnd (some (.int 1)) fun a347 => bnd (some (.int 12)) fun a348 => bnd (inte a347) fun a347j => bnd (inte a348) fun a348j => ranTo a347j a348j) fun a369 => folU (fun x350 s346 => bnd (some x350) fun q349 => (S.lb_law_k70_6 q349 s346)) a369 v14_344) fun s346 => (bnd (bnd (bnd (bnd (bnd (some (.int 1)) fun a370 => bnd (some (.int 12)) fun a371 => bnd (inte a370) fun a370j => bnd (inte a371) fun a371j => ranTo a370j a371j) fun a372 => bnd ((mapU fun x375 => bnd (some x375) fun q374 => (bnd (some q374) fun a376 => S.u_how_many_links a376)) a372) len6) fun a377 => some (.lst a377)) fun a382 => bnd (bnd (some (.lst s346)) fun a378 => bnd (bnd (some (.int 1)) asInt) fun a379 => bnd (some none) fun a380 => slU a379 a380 a378) fun a383 => bnd (eqU a382 a383) fun a381 => some (.bl a381)) fun a384 => some (.rt a384 [])))))) : Option (Fw Unit Unit))
end Rx.S

namespace Rx.K70
open PySem PySem.Spec PyProof.Rows L2 Rx

def prog : Program := PySem.Challenge.pw_kissroads_k70_across_links_and_bits
def top (i : Nat) : Stmt := PySem.Challenge.pw_kissroads_k70_across_links_and_bits.main.body.getD i (.Pass ⟨0, 0, 0, 0⟩)
abbrev s_is_number : Stmt := top 5
abbrev s_is_from : Stmt := top 6
abbrev s_is_below : Stmt := top 7
abbrev s_is_within : Stmt := top 8
abbrev s_tupled : Stmt := top 9
abbrev s_picks : Stmt := top 10
abbrev s_is_links_of : Stmt := top 13
abbrev s_sure_links : Stmt := top 14
abbrev s_signs_of_links : Stmt := top 15
abbrev s_links_by : Stmt := top 16
abbrev s_all_bits : Stmt := top 17
abbrev s_all_links_in : Stmt := top 18
abbrev s_turned_in : Stmt := top 19
abbrev s_sure_pairs : Stmt := top 20
abbrev s_is_links : Stmt := top 21
abbrev s_all_links : Stmt := top 22
abbrev s_how_many_links : Stmt := top 23
abbrev s_link_bits : Stmt := top 24
abbrev s_links_of_bits : Stmt := top 25
abbrev s_links_turned : Stmt := top 26
abbrev s_links_mirrored : Stmt := top 27
abbrev s_nested_links : Stmt := top 28
abbrev s_short_links : Stmt := top 29
abbrev s_moved_in : Stmt := top 31
abbrev s_link_moved : Stmt := top 32
abbrev s_links_beside : Stmt := top 33
abbrev s__law_box : Stmt := top 35
abbrev s__law_take : Stmt := top 36
abbrev s__law_cells : Stmt := top 37
abbrev s__law_of : Stmt := top 38
abbrev s__law_all_links : Stmt := top 39
abbrev s_law : Stmt := top 40
structure HH (K : PySem.W.Frag) (mg : Str → Option Value) : Prop where
  F_is_number : ∃ a fd, Fun K "is_number" "is_number" s_is_number a fd ∧ mg "is_number" = some (.ref a)
  F_is_from : ∃ a fd, Fun K "is_from" "is_from" s_is_from a fd ∧ mg "is_from" = some (.ref a)
  F_is_below : ∃ a fd, Fun K "is_below" "is_below" s_is_below a fd ∧ mg "is_below" = some (.ref a)
  F_is_within : ∃ a fd, Fun K "is_within" "is_within" s_is_within a fd ∧ mg "is_within" = some (.ref a)
  F_tupled : ∃ a fd, Fun K "tupled" "tupled" s_tupled a fd ∧ mg "tupled" = some (.ref a)
  F_picks : ∃ a fd, Fun K "picks" "picks" s_picks a fd ∧ mg "picks" = some (.ref a)
  F_is_links_of : ∃ a fd, Fun K "is_links_of" "is_links_of" s_is_links_of a fd ∧ mg "is_links_of" = some (.ref a)
  F_sure_links : ∃ a fd, Fun K "sure_links" "sure_links" s_sure_links a fd ∧ mg "sure_links" = some (.ref a)
  F_signs_of_links : ∃ a fd, Fun K "signs_of_links" "signs_of_links" s_signs_of_links a fd ∧ mg "signs_of_links" = some (.ref a)
  F_links_by : ∃ a fd, Fun K "links_by" "links_by" s_links_by a fd ∧ mg "links_by" = some (.ref a)
  F_all_bits : ∃ a fd, Fun K "all_bits" "all_bits" s_all_bits a fd ∧ mg "all_bits" = some (.ref a)
  F_all_links_in : ∃ a fd, Fun K "all_links_in" "all_links_in" s_all_links_in a fd ∧ mg "all_links_in" = some (.ref a)
  F_turned_in : ∃ a fd, Fun K "turned_in" "turned_in" s_turned_in a fd ∧ mg "turned_in" = some (.ref a)
  F_sure_pairs : ∃ a fd, Fun K "sure_pairs" "sure_pairs" s_sure_pairs a fd ∧ mg "sure_pairs" = some (.ref a)
  F_is_links : ∃ a fd, Fun K "is_links" "is_links" s_is_links a fd ∧ mg "is_links" = some (.ref a)
  F_all_links : ∃ a fd, Fun K "all_links" "all_links" s_all_links a fd ∧ mg "all_links" = some (.ref a)
  F_how_many_links : ∃ a fd, Fun K "how_many_links" "how_many_links" s_how_many_links a fd ∧ mg "how_many_links" = some (.ref a)
  F_link_bits : ∃ a fd, Fun K "link_bits" "link_bits" s_link_bits a fd ∧ mg "link_bits" = some (.ref a)
  F_links_of_bits : ∃ a fd, Fun K "links_of_bits" "links_of_bits" s_links_of_bits a fd ∧ mg "links_of_bits" = some (.ref a)
  F_links_turned : ∃ a fd, Fun K "links_turned" "links_turned" s_links_turned a fd ∧ mg "links_turned" = some (.ref a)
  F_links_mirrored : ∃ a fd, Fun K "links_mirrored" "links_mirrored" s_links_mirrored a fd ∧ mg "links_mirrored" = some (.ref a)
  F_nested_links : ∃ a fd, Fun K "nested_links" "nested_links" s_nested_links a fd ∧ mg "nested_links" = some (.ref a)
  F_short_links : ∃ a fd, Fun K "short_links" "short_links" s_short_links a fd ∧ mg "short_links" = some (.ref a)
  F_moved_in : ∃ a fd, Fun K "moved_in" "moved_in" s_moved_in a fd ∧ mg "moved_in" = some (.ref a)
  F_link_moved : ∃ a fd, Fun K "link_moved" "link_moved" s_link_moved a fd ∧ mg "link_moved" = some (.ref a)
  F_links_beside : ∃ a fd, Fun K "links_beside" "links_beside" s_links_beside a fd ∧ mg "links_beside" = some (.ref a)
  F__law_box : ∃ a fd, Fun K "_law_box" "_law_box" s__law_box a fd ∧ mg "_law_box" = some (.ref a)
  F__law_take : ∃ a fd, Fun K "_law_take" "_law_take" s__law_take a fd ∧ mg "_law_take" = some (.ref a)
  F__law_cells : ∃ a fd, Fun K "_law_cells" "_law_cells" s__law_cells a fd ∧ mg "_law_cells" = some (.ref a)
  F__law_of : ∃ a fd, Fun K "_law_of" "_law_of" s__law_of a fd ∧ mg "_law_of" = some (.ref a)
  F__law_all_links : ∃ a fd, Fun K "_law_all_links" "_law_all_links" s__law_all_links a fd ∧ mg "_law_all_links" = some (.ref a)
  F_law : ∃ a fd, Fun K "law" "law" s_law a fd ∧ mg "law" = some (.ref a)
  c_MOST : ∃ t, mg "MOST" = some (.int 18 t)
section
variable {P : Program} {w : World} {K : PySem.W.Frag} {mg : Str → Option Value} {base : Heap} {X : Cx}
def N_is_number : List Str := ["thing"]
def m_is_number : SX :=
  (sRet (eAnd (eCall (f2 gIsi) (aCons (evar 0) (aCons (cst (.ty "int")) aNil))) (eNot (eCall (f2 gIsi) (aCons (evar 0) (aCons (cst (.ty "bool")) aNil))))))
def f_is_number : FX := mkFn 1 1 m_is_number
theorem ar_is_number : Ar 1 f_is_number := ar_mk
theorem d_is_number (hh : HH K mg) (B : Bn mg) (hX : InF X N_is_number (defScope s_is_number)) (G : Gx X P w K mg base) (hr : Room 0 X.A) : RSs X (defBody s_is_number) m_is_number :=
  (rss_one (rs_ret (re_and (re_callB hX.toIn (x := "isinstance") (id := "isinstance") c_isi (by kernel_rfl) (G.no B (x := "isinstance") (by kernel_rfl)) (by rfl) (ra_cons (re_var hX.toIn (by kernel_rfl)) (ra_cons (re_type hX.toIn (x := "int") (by kernel_rfl) (G.no B (x := "int") (by kernel_rfl)) (by rfl)) ra_nil))) (re_one (re_not (re_callB hX.toIn (x := "isinstance") (id := "isinstance") c_isi (by kernel_rfl) (G.no B (x := "isinstance") (by kernel_rfl)) (by rfl) (ra_cons (re_var hX.toIn (by kernel_rfl)) (ra_cons (re_type hX.toIn (x := "bool") (by kernel_rfl) (G.no B (x := "bool") (by kernel_rfl)) (by rfl)) ra_nil))))))))
theorem c_is_number (hh : HH K mg) (B : Bn mg) : Cl P w K mg base 1 "is_number" ["thing"] f_is_number := by
  obtain ⟨a, fd, F, hm⟩ := hh.F_is_number
  exact cl_of (N := N_is_number) F hm (by kernel_rfl) (fun _ _ _ _ _ _ us hl => match us, hl with | [_], _ => rfl) (fun _ _ _ _ _ _ us hl => match us, hl with | [_], _ => rfl) fun X hX G hr => d_is_number hh B hX G hr
def N_is_from : List Str := ["thing", "least"]
def m_is_from : SX :=
  (sRet (eAnd (eCall (callM f_is_number) (aCons (evar 0) aNil)) (eBin (fCmpD geI geD) (evar 0) (evar 1))))
def f_is_from : FX := mkFn 2 2 m_is_from
theorem ar_is_from : Ar 2 f_is_from := ar_mk
theorem d_is_from (hh : HH K mg) (B : Bn mg) (hX : InF X N_is_from (defScope s_is_from)) (G : Gx X P w K mg base) (hr : Room 1 X.A) : RSs X (defBody s_is_from) m_is_from :=
  (rss_one (rs_ret (re_and (re_call hX.toIn G (c_is_number (base := base) (w := w) hh B) ar_is_number hr (by first | decide | omega) (by kernel_rfl) (ra_cons (re_var hX.toIn (by kernel_rfl)) ra_nil)) (re_one (re_cmp (o_geD hX.toIn) (re_var hX.toIn (by kernel_rfl)) (re_var hX.toIn (by kernel_rfl)) (nomark _))))))
theorem c_is_from (hh : HH K mg) (B : Bn mg) : Cl P w K mg base 2 "is_from" ["thing", "least"] f_is_from := by
  obtain ⟨a, fd, F, hm⟩ := hh.F_is_from
  exact cl_of (N := N_is_from) F hm (by kernel_rfl) (fun _ _ _ _ _ _ us hl => match us, hl with | [_, _], _ => rfl) (fun _ _ _ _ _ _ us hl => match us, hl with | [_, _], _ => rfl) fun X hX G hr => d_is_from hh B hX G hr
def N_is_below : List Str := ["thing", "many"]
def m_is_below : SX :=
  (sRet (eAnd (eCall (callM f_is_from) (aCons (evar 0) (aCons (cst (.int 0)) aNil))) (eBin (fCmpD ltI ltD) (evar 0) (evar 1))))
def f_is_below : FX := mkFn 2 2 m_is_below
theorem ar_is_below : Ar 2 f_is_below := ar_mk
theorem d_is_below (hh : HH K mg) (B : Bn mg) (hX : InF X N_is_below (defScope s_is_below)) (G : Gx X P w K mg base) (hr : Room 2 X.A) : RSs X (defBody s_is_below) m_is_below :=
  (rss_one (rs_ret (re_and (re_call hX.toIn G (c_is_from (base := base) (w := w) hh B) ar_is_from hr (by first | decide | omega) (by kernel_rfl) (ra_cons (re_var hX.toIn (by kernel_rfl)) (ra_cons re_int ra_nil))) (re_one (re_cmp (o_ltD hX.toIn) (re_var hX.toIn (by kernel_rfl)) (re_var hX.toIn (by kernel_rfl)) (nomark _))))))
theorem c_is_below (hh : HH K mg) (B : Bn mg) : Cl P w K mg base 3 "is_below" ["thing", "many"] f_is_below := by
  obtain ⟨a, fd, F, hm⟩ := hh.F_is_below
  exact cl_of (N := N_is_below) F hm (by kernel_rfl) (fun _ _ _ _ _ _ us hl => match us, hl with | [_, _], _ => rfl) (fun _ _ _ _ _ _ us hl => match us, hl with | [_, _], _ => rfl) fun X hX G hr => d_is_below hh B hX G hr
def N_is_within : List Str := ["thing", "least", "most"]
def m_is_within : SX :=
  (sRet (eAnd (eCall (callM f_is_from) (aCons (evar 0) (aCons (evar 1) aNil))) (eBin (fCmpD leI leD) (evar 0) (evar 2))))
def f_is_within : FX := mkFn 3 3 m_is_within
theorem ar_is_within : Ar 3 f_is_within := ar_mk
theorem d_is_within (hh : HH K mg) (B : Bn mg) (hX : InF X N_is_within (defScope s_is_within)) (G : Gx X P w K mg base) (hr : Room 2 X.A) : RSs X (defBody s_is_within) m_is_within :=
  (rss_one (rs_ret (re_and (re_call hX.toIn G (c_is_from (base := base) (w := w) hh B) ar_is_from hr (by first | decide | omega) (by kernel_rfl) (ra_cons (re_var hX.toIn (by kernel_rfl)) (ra_cons (re_var hX.toIn (by kernel_rfl)) ra_nil))) (re_one (re_cmp (o_leD hX.toIn) (re_var hX.toIn (by kernel_rfl)) (re_var hX.toIn (by kernel_rfl)) (nomark _))))))
theorem c_is_within (hh : HH K mg) (B : Bn mg) : Cl P w K mg base 3 "is_within" ["thing", "least", "most"] f_is_within := by
  obtain ⟨a, fd, F, hm⟩ := hh.F_is_within
  exact cl_of (N := N_is_within) F hm (by kernel_rfl) (fun _ _ _ _ _ _ us hl => match us, hl with | [_, _, _], _ => rfl) (fun _ _ _ _ _ _ us hl => match us, hl with | [_, _, _], _ => rfl) fun X hX G hr => d_is_within hh B hX G hr
def N_tupled : List Str := ["value", "own"]
def m_tupled (self : FX) : SX :=
  (sRet (eIf (tTru (eCall (f2 gIsi) (aCons (evar 0) (aCons (eTup (aCons (cst (.ty "list")) (aCons (cst (.ty "tuple")) aNil))) aNil)))) (eCall (f1 gTuple) (aCons (eComp (iOf (evar 0)) (.nm 1) tYesM (eCall (callM self) (aCons (evar 1) aNil)) [1]) aNil)) (evar 0)))
def f_tupled : Nat → FX
  | 0 => fun _ _ => .err
  | n + 1 => mkFn 2 1 (m_tupled (f_tupled n))
theorem ar_tupled : ∀ n, Ar 1 (f_tupled n)
  | 0 => fun _ _ _ _ h => nomatch h
  | n + 1 => ar_mk
theorem d_tupled (hh : HH K mg) (B : Bn mg) {self : FX} {j : Nat} (cself : Cl P w K mg base (0 + j) "tupled" ["value"] self) (arself : Ar 1 self) (hX : InF X N_tupled (defScope s_tupled)) (G : Gx X P w K mg base) (hr : Room (0 + j) X.A) : RSs X (defBody s_tupled) (m_tupled self) :=
  (rss_one (rs_ret (re_if (rt_tru (re_callB hX.toIn (x := "isinstance") (id := "isinstance") c_isi (by kernel_rfl) (G.no B (x := "isinstance") (by kernel_rfl)) (by rfl) (ra_cons (re_var hX.toIn (by kernel_rfl)) (ra_cons (re_tup (ra_cons (re_type hX.toIn (x := "list") (by kernel_rfl) (G.no B (x := "list") (by kernel_rfl)) (by rfl)) (ra_cons (re_type hX.toIn (x := "tuple") (by kernel_rfl) (G.no B (x := "tuple") (by kernel_rfl)) (by rfl)) ra_nil))) ra_nil)))) (re_callTy hX.toIn (x := "tuple") (T := "tuple") c_tuple (by kernel_rfl) (G.no B (x := "tuple") (by kernel_rfl)) (by rfl) (ra_cons (re_comp hX.toIn (own := [("own", 1)]) (p := (.nm 1)) (t := tYesM) (ri_of (re_var hX.toIn (by kernel_rfl))) (by kernel_rfl) (by rfl) (fun _ _ _ _ _ => (rg_name (hX.toIn.loB (by kernel_rfl)))) (fun _ _ _ _ _ => rts_none) (fun _ _ _ _ _ => (re_call hX.toIn.blk G.blk cself arself hr (by first | decide | omega) (by kernel_rfl) (ra_cons (re_var hX.toIn.blk (by kernel_rfl)) ra_nil)))) ra_nil)) (re_var hX.toIn (by kernel_rfl)))))
theorem c_tupled (hh : HH K mg) (B : Bn mg) : ∀ n, Cl P w K mg base (0 + n) "tupled" ["value"] (f_tupled n)
  | 0 => by
    obtain ⟨a, fd, F, hm⟩ := hh.F_tupled
    exact (cl_err F hm (fun _ _ _ _ _ _ us hl => match us, hl with | [_], _ => rfl) (fun _ _ _ _ _ _ us hl => match us, hl with | [_], _ => rfl)).mono (Nat.zero_le _)
  | n + 1 => by
    obtain ⟨a, fd, F, hm⟩ := hh.F_tupled
    exact cl_of (N := N_tupled) F hm (by kernel_rfl) (fun _ _ _ _ _ _ us hl => match us, hl with | [_], _ => rfl) (fun _ _ _ _ _ _ us hl => match us, hl with | [_], _ => rfl) fun X hX G hr => d_tupled hh B (c_tupled hh B n) (ar_tupled n) hX G hr
def N_picks : List Str := ["many", "some", "found", "lap"]
def m_picks : SX :=
  (sSeq (sPat (.nm 2) (cst (.int 1)))
  (sSeq (sFor (iRange (aCons (evar 1) aNil)) (.nm 3) (sPat (.nm 2) (eBin fDiv (eBin fMul (evar 2) (eBin fSub (evar 0) (evar 3))) (eBin fAdd (evar 3) (cst (.int 1))))))
  (sRet (evar 2))))
def f_picks : FX := mkFn 4 2 m_picks
theorem ar_picks : Ar 2 f_picks := ar_mk
theorem d_picks (hh : HH K mg) (B : Bn mg) (hX : InF X N_picks (defScope s_picks)) (G : Gx X P w K mg base) (hr : Room 0 X.A) : RSs X (defBody s_picks) m_picks :=
  (rss_cons (rs_set (hX.lo (by kernel_rfl)) re_int)
  (rss_cons (rs_for hX.toIn (ri_range1 hX.toIn (by kernel_rfl) (G.no B (x := "range") (by kernel_rfl)) (re_var hX.toIn (by kernel_rfl))) (rg_name (hX.lo (by kernel_rfl))) (rss_one (rs_set (hX.lo (by kernel_rfl)) (re_op o_div (re_op o_mul (re_var hX.toIn (by kernel_rfl)) (re_op o_sub (re_var hX.toIn (by kernel_rfl)) (re_var hX.toIn (by kernel_rfl)))) (re_op o_add (re_var hX.toIn (by kernel_rfl)) re_int)))))
  (rss_one (rs_ret (re_var hX.toIn (by kernel_rfl))))))
theorem c_picks (hh : HH K mg) (B : Bn mg) : Cl P w K mg base 1 "picks" ["many", "some"] f_picks := by
  obtain ⟨a, fd, F, hm⟩ := hh.F_picks
  exact cl_of (N := N_picks) F hm (by kernel_rfl) (fun _ _ _ _ _ _ us hl => match us, hl with | [_, _], _ => rfl) (fun _ _ _ _ _ _ us hl => match us, hl with | [_, _], _ => rfl) fun X hX G hr => d_picks hh B hX G hr
def N_is_links_of : List Str := ["thing", "place", "own", "one", "two"]
def m_is_links_of : SX :=
  (sSeq (sIf (tOrM (tNotM (tTru (eCall (f2 gIsi) (aCons (evar 0) (aCons (cst (.ty "tuple")) aNil))))) (tOrM (tNotM (tBl (eChain (fCmpD leI leD) (fCmpD leI leD) (cst (.int 2)) (eCall (f1 gLen) (aCons (evar 0) aNil)) (eBin fMul (cst (.int 2)) (cst (.int 18)))))) (tBl (eBin (fEq false) (eBin fMod (eCall (f1 gLen) (aCons (evar 0) aNil)) (cst (.int 2))) (cst (.int 1)))))) (sRet (cst (.bl false))) sNil)
  (sSeq (sIf (tNotM (tTru (eCall (f1 gAll) (aCons (eComp (iEnum (evar 0)) (.tp [1, 2]) tYesM (eAnd (eCall (callM f_is_below) (aCons (evar 2) (aCons (eCall (f1 gLen) (aCons (evar 0) aNil)) aNil))) (eBin (fEq true) (evar 2) (evar 1))) [1, 2]) aNil)))) (sRet (cst (.bl false))) sNil)
  (sSeq (sIf (tTru (eCall (f1 gAny) (aCons (eComp (iEnum (evar 0)) (.tp [1, 2]) tYesM (eBin (fEq true) (eBin fIx (evar 0) (evar 2)) (evar 1)) [1, 2]) aNil))) (sRet (cst (.bl false))) sNil)
  (sRet (eNot (eCall (f1 gAny) (aCons (eComp2 (iRange (aCons (eCall (f1 gLen) (aCons (evar 0) aNil)) aNil)) (.nm 3) tYesM (iRange (aCons (eCall (f1 gLen) (aCons (evar 0) aNil)) aNil)) (.nm 4) tYesM (eChain3 (fCmpD ltI ltD) (fCmpD ltI ltD) (fCmpD ltI ltD) (evar 3) (evar 4) (eBin fIx (evar 0) (evar 3)) (eBin fIx (evar 0) (evar 4))) [3, 4]) aNil)))))))
def f_is_links_of : FX := mkFn 5 1 m_is_links_of
theorem ar_is_links_of : Ar 1 f_is_links_of := ar_mk
theorem d_is_links_of (hh : HH K mg) (B : Bn mg) (hX : InF X N_is_links_of (defScope s_is_links_of)) (G : Gx X P w K mg base) (hr : Room 3 X.A) : RSs X (defBody s_is_links_of) m_is_links_of :=
  (rss_cons (rs_if (PW.pt (rw_or (rt_not (rt_tru (re_callB hX.toIn (x := "isinstance") (id := "isinstance") c_isi (by kernel_rfl) (G.no B (x := "isinstance") (by kernel_rfl)) (by rfl) (ra_cons (re_var hX.toIn (by kernel_rfl)) (ra_cons (re_type hX.toIn (x := "tuple") (by kernel_rfl) (G.no B (x := "tuple") (by kernel_rfl)) (by rfl)) ra_nil))))) (rw_or (rt_not (rt_chain (o_leD hX.toIn) (o_leD hX.toIn) re_int (re_callB hX.toIn (x := "len") (id := "len") c_len (by kernel_rfl) (G.no B (x := "len") (by kernel_rfl)) (by rfl) (ra_cons (re_var hX.toIn (by kernel_rfl)) ra_nil)) (re_op o_mul re_int (re_globI hX.toIn G (by kernel_rfl) hh.c_MOST (by decide))) (by rfl))) (rw_or1 (rt_cmp (o_eq hX.toIn) (re_op o_mod (re_callB hX.toIn (x := "len") (id := "len") c_len (by kernel_rfl) (G.no B (x := "len") (by kernel_rfl)) (by rfl) (ra_cons (re_var hX.toIn (by kernel_rfl)) ra_nil)) re_int) re_int (nomark _)))))) (rss_one (rs_ret re_bl)) rss_nil)
  (rss_cons (rs_if (rt_not (rt_tru (re_callB hX.toIn (x := "all") (id := "all") (c_all hX.toIn) (by kernel_rfl) (G.no B (x := "all") (by kernel_rfl)) (by rfl) (ra_cons (re_comp hX.toIn (own := [("place", 1), ("own", 2)]) (p := (.tp [1, 2])) (t := tYesM) (ri_enum hX.toIn (by kernel_rfl) (G.no B (x := "enumerate") (by kernel_rfl)) (re_var hX.toIn (by kernel_rfl))) (by kernel_rfl) (by rfl) (fun _ _ _ _ _ => (rg_tup hX.toIn.blk (rgs_cons (hX.toIn.loB (by kernel_rfl)) (rgs_cons (hX.toIn.loB (by kernel_rfl)) rgs_nil)))) (fun _ _ _ _ _ => rts_none) (fun _ _ _ _ _ => (re_and (re_call hX.toIn.blk G.blk (c_is_below (base := base) (w := w) hh B) ar_is_below hr (by first | decide | omega) (by kernel_rfl) (ra_cons (re_var hX.toIn.blk (by kernel_rfl)) (ra_cons (re_callB hX.toIn.blk (x := "len") (id := "len") c_len (by kernel_rfl) (G.blk.no B (x := "len") (by kernel_rfl)) (by rfl) (ra_cons (re_var hX.toIn.blk (by kernel_rfl)) ra_nil)) ra_nil))) (re_one (re_cmp (o_ne hX.toIn.blk) (re_var hX.toIn.blk (by kernel_rfl)) (re_var hX.toIn.blk (by kernel_rfl)) (nomark _)))))) ra_nil)))) (rss_one (rs_ret re_bl)) rss_nil)
  (rss_cons (rs_if (rt_tru (re_callB hX.toIn (x := "any") (id := "any") (c_any hX.toIn) (by kernel_rfl) (G.no B (x := "any") (by kernel_rfl)) (by rfl) (ra_cons (re_comp hX.toIn (own := [("place", 1), ("own", 2)]) (p := (.tp [1, 2])) (t := tYesM) (ri_enum hX.toIn (by kernel_rfl) (G.no B (x := "enumerate") (by kernel_rfl)) (re_var hX.toIn (by kernel_rfl))) (by kernel_rfl) (by rfl) (fun _ _ _ _ _ => (rg_tup hX.toIn.blk (rgs_cons (hX.toIn.loB (by kernel_rfl)) (rgs_cons (hX.toIn.loB (by kernel_rfl)) rgs_nil)))) (fun _ _ _ _ _ => rts_none) (fun _ _ _ _ _ => (re_cmp (o_ne hX.toIn.blk) (re_ix (re_var hX.toIn.blk (by kernel_rfl)) (re_var hX.toIn.blk (by kernel_rfl))) (re_var hX.toIn.blk (by kernel_rfl)) (nomark _)))) ra_nil))) (rss_one (rs_ret re_bl)) rss_nil)
  (rss_one (rs_ret (re_not (re_callB hX.toIn (x := "any") (id := "any") (c_any hX.toIn) (by kernel_rfl) (G.no B (x := "any") (by kernel_rfl)) (by rfl) (ra_cons (re_comp2 hX.toIn (own := [("one", 3), ("two", 4)]) (p := (.nm 3)) (t := tYesM) (p1 := (.nm 4)) (t1 := tYesM) (ri_range1 hX.toIn (by kernel_rfl) (G.no B (x := "range") (by kernel_rfl)) (re_callB hX.toIn (x := "len") (id := "len") c_len (by kernel_rfl) (G.no B (x := "len") (by kernel_rfl)) (by rfl) (ra_cons (re_var hX.toIn (by kernel_rfl)) ra_nil))) (by kernel_rfl) (by rfl) (by rfl) (fun _ _ _ _ _ => (rg_name (hX.toIn.loB (by kernel_rfl)))) (fun _ _ _ _ _ => rts_none) (fun _ _ _ _ _ => (ri_range1 hX.toIn.blk (by kernel_rfl) (G.blk.no B (x := "range") (by kernel_rfl)) (re_callB hX.toIn.blk (x := "len") (id := "len") c_len (by kernel_rfl) (G.blk.no B (x := "len") (by kernel_rfl)) (by rfl) (ra_cons (re_var hX.toIn.blk (by kernel_rfl)) ra_nil)))) (fun _ _ _ _ _ => (rg_name (hX.toIn.loB (by kernel_rfl)))) (fun _ _ _ _ _ => rts_none) (fun _ _ _ _ _ => (re_chain3 (o_ltD hX.toIn.blk) (o_ltD hX.toIn.blk) (o_ltD hX.toIn.blk) (re_var hX.toIn.blk (by kernel_rfl)) (re_var hX.toIn.blk (by kernel_rfl)) (re_ix (re_var hX.toIn.blk (by kernel_rfl)) (re_var hX.toIn.blk (by kernel_rfl))) (re_ix (re_var hX.toIn.blk (by kernel_rfl)) (re_var hX.toIn.blk (by kernel_rfl))) (by rfl)))) ra_nil))))))))
theorem c_is_links_of (hh : HH K mg) (B : Bn mg) : Cl P w K mg base 4 "is_links_of" ["thing"] f_is_links_of := by
  obtain ⟨a, fd, F, hm⟩ := hh.F_is_links_of
  exact cl_of (N := N_is_links_of) F hm (by kernel_rfl) (fun _ _ _ _ _ _ us hl => match us, hl with | [_], _ => rfl) (fun _ _ _ _ _ _ us hl => match us, hl with | [_], _ => rfl) fun X hX G hr => d_is_links_of hh B hX G hr
def N_sure_links : List Str := ["links", "own"]
def m_sure_links : SX :=
  (sSeq (sPat (.nm 1) (eCall (callM (f_tupled 8)) (aCons (evar 0) aNil)))
  (sSeq (sIf (tNotM (tTru (eCall (callM f_is_links_of) (aCons (evar 1) aNil)))) sErr sNil)
  (sRet (evar 1))))
def f_sure_links : FX := mkFn 2 1 m_sure_links
theorem ar_sure_links : Ar 1 f_sure_links := ar_mk
theorem d_sure_links (hh : HH K mg) (B : Bn mg) (hX : InF X N_sure_links (defScope s_sure_links)) (G : Gx X P w K mg base) (hr : Room 9 X.A) : RSs X (defBody s_sure_links) m_sure_links :=
  (rss_cons (rs_set (hX.lo (by kernel_rfl)) (re_call hX.toIn G (c_tupled (base := base) (w := w) hh B 8) (ar_tupled 8) hr (by first | decide | omega) (by kernel_rfl) (ra_cons (re_var hX.toIn (by kernel_rfl)) ra_nil)))
  (rss_cons (rs_if (rt_not (rt_tru (re_call hX.toIn G (c_is_links_of (base := base) (w := w) hh B) ar_is_links_of hr (by first | decide | omega) (by kernel_rfl) (ra_cons (re_var hX.toIn (by kernel_rfl)) ra_nil)))) (rss_one rs_err) rss_nil)
  (rss_one (rs_ret (re_var hX.toIn (by kernel_rfl))))))
theorem c_sure_links (hh : HH K mg) (B : Bn mg) : Cl P w K mg base 10 "sure_links" ["links"] f_sure_links := by
  obtain ⟨a, fd, F, hm⟩ := hh.F_sure_links
  exact cl_of (N := N_sure_links) F hm (by kernel_rfl) (fun _ _ _ _ _ _ us hl => match us, hl with | [_], _ => rfl) (fun _ _ _ _ _ _ us hl => match us, hl with | [_], _ => rfl) fun X hX G hr => d_sure_links hh B hX G hr
def N_signs_of_links : List Str := ["links", "place", "own"]
def m_signs_of_links : SX :=
  (sRet (eCall (f1 gTuple) (aCons (eComp (iEnum (evar 0)) (.tp [1, 2]) tYesM (eCall (f1 gInt) (aCons (eBin (fCmpD gtI gtD) (evar 2) (evar 1)) aNil)) [1, 2]) aNil)))
def f_signs_of_links : FX := mkFn 3 1 m_signs_of_links
theorem ar_signs_of_links : Ar 1 f_signs_of_links := ar_mk
theorem d_signs_of_links (hh : HH K mg) (B : Bn mg) (hX : InF X N_signs_of_links (defScope s_signs_of_links)) (G : Gx X P w K mg base) (hr : Room 0 X.A) : RSs X (defBody s_signs_of_links) m_signs_of_links :=
  (rss_one (rs_ret (re_callTy hX.toIn (x := "tuple") (T := "tuple") c_tuple (by kernel_rfl) (G.no B (x := "tuple") (by kernel_rfl)) (by rfl) (ra_cons (re_comp hX.toIn (own := [("place", 1), ("own", 2)]) (p := (.tp [1, 2])) (t := tYesM) (ri_enum hX.toIn (by kernel_rfl) (G.no B (x := "enumerate") (by kernel_rfl)) (re_var hX.toIn (by kernel_rfl))) (by kernel_rfl) (by rfl) (fun _ _ _ _ _ => (rg_tup hX.toIn.blk (rgs_cons (hX.toIn.loB (by kernel_rfl)) (rgs_cons (hX.toIn.loB (by kernel_rfl)) rgs_nil)))) (fun _ _ _ _ _ => rts_none) (fun _ _ _ _ _ => (re_callTy hX.toIn.blk (x := "int") (T := "int") c_int (by kernel_rfl) (G.blk.no B (x := "int") (by kernel_rfl)) (by rfl) (ra_cons (re_cmp (o_gtD hX.toIn.blk) (re_var hX.toIn.blk (by kernel_rfl)) (re_var hX.toIn.blk (by kernel_rfl)) (nomark _)) ra_nil)))) ra_nil))))
theorem c_signs_of_links (hh : HH K mg) (B : Bn mg) : Cl P w K mg base 1 "signs_of_links" ["links"] f_signs_of_links := by
  obtain ⟨a, fd, F, hm⟩ := hh.F_signs_of_links
  exact cl_of (N := N_signs_of_links) F hm (by kernel_rfl) (fun _ _ _ _ _ _ us hl => match us, hl with | [_], _ => rfl) (fun _ _ _ _ _ _ us hl => match us, hl with | [_], _ => rfl) fun X hX G hr => d_signs_of_links hh B hX G hr
def N_links_by : List Str := ["bits", "found", "held", "place", "bit", "own"]
def m_links_by : SX :=
  (sSeq (sPar 1 2 (aCons (eBin fMul (eLst (aCons (cst .non) aNil)) (eCall (f1 gLen) (aCons (evar 0) aNil))) (aCons (eLst aNil) aNil)))
  (sSeq (sFor (iEnum (evar 0)) (.tp [3, 4]) (sIf (tBl (eBin (fEq false) (evar 4) (cst (.int 1)))) (sExpr (eMth mAppend (evar 2) (aCons (evar 3) aNil))) (sSeq (sPat (.nm 5) (eMth mPop (evar 2) aNil))
  (sTgs [(.sub (evar 1) (evar 5)), (.sub (evar 1) (evar 3))] (eTup (aCons (evar 3) (aCons (evar 5) aNil)))))))
  (sRet (eCall (f1 gTuple) (aCons (evar 1) aNil)))))
def f_links_by : FX := mkFn 6 1 m_links_by
theorem ar_links_by : Ar 1 f_links_by := ar_mk
theorem d_links_by (hh : HH K mg) (B : Bn mg) (hX : InF X N_links_by (defScope s_links_by)) (G : Gx X P w K mg base) (hr : Room 0 X.A) : RSs X (defBody s_links_by) m_links_by :=
  (rss_cons (rs_par hX.toIn (by kernel_rfl) (by kernel_rfl) (by rfl) (by kernel_rfl) (by kernel_rfl) (ra_cons (re_op o_mul (re_lst (ra_cons re_non ra_nil)) (re_callB hX.toIn (x := "len") (id := "len") c_len (by kernel_rfl) (G.no B (x := "len") (by kernel_rfl)) (by rfl) (ra_cons (re_var hX.toIn (by kernel_rfl)) ra_nil))) (ra_cons (re_lst ra_nil) ra_nil)) (by intro env he; cases env; cases he; rfl))
  (rss_cons (rs_for hX.toIn (ri_enum hX.toIn (by kernel_rfl) (G.no B (x := "enumerate") (by kernel_rfl)) (re_var hX.toIn (by kernel_rfl))) (rg_tup hX.toIn (rgs_cons (hX.lo (by kernel_rfl)) (rgs_cons (hX.lo (by kernel_rfl)) rgs_nil))) (rss_one (rs_if (rt_cmp (o_eq hX.toIn) (re_var hX.toIn (by kernel_rfl)) re_int (nomark _)) (rss_one (rs_expr (re_append (re_var hX.toIn (by kernel_rfl)) (ra_cons (re_var hX.toIn (by kernel_rfl)) ra_nil)))) (rss_cons (rs_set (hX.lo (by kernel_rfl)) (re_pop (re_var hX.toIn (by kernel_rfl))))
  (rss_one (rs_tgsS hX.toIn (rts_cons (rt_sub (re_var hX.toIn (by kernel_rfl)) (re_var hX.toIn (by kernel_rfl)) (by intro _; rfl)) (rts_cons (rt_sub (re_var hX.toIn (by kernel_rfl)) (re_var hX.toIn (by kernel_rfl)) (by intro _; rfl)) rts_nil)) (re_tup (ra_cons (re_var hX.toIn (by kernel_rfl)) (ra_cons (re_var hX.toIn (by kernel_rfl)) ra_nil))) (by intro env he; cases env; cases he; rfl)))))))
  (rss_one (rs_ret (re_callTy hX.toIn (x := "tuple") (T := "tuple") c_tuple (by kernel_rfl) (G.no B (x := "tuple") (by kernel_rfl)) (by rfl) (ra_cons (re_var hX.toIn (by kernel_rfl)) ra_nil))))))
theorem c_links_by (hh : HH K mg) (B : Bn mg) : Cl P w K mg base 1 "links_by" ["bits"] f_links_by := by
  obtain ⟨a, fd, F, hm⟩ := hh.F_links_by
  exact cl_of (N := N_links_by) F hm (by kernel_rfl) (fun _ _ _ _ _ _ us hl => match us, hl with | [_], _ => rfl) (fun _ _ _ _ _ _ us hl => match us, hl with | [_], _ => rfl) fun X hX G hr => d_links_by hh B hX G hr
def N_all_bits : List Str := ["pairs", "found", "lap", "row", "bit"]
def m_all_bits : SX :=
  (sSeq (sPat (.nm 1) (eLst (aCons (eTup aNil) aNil)))
  (sSeq (sFor (iRange (aCons (eBin fMul (cst (.int 2)) (evar 0)) aNil)) (.nm 2) (sPat (.nm 1) (eComp2 (iOf (evar 1)) (.nm 3) tYesM (iOf (eTup (aCons (cst (.int 0)) (aCons (cst (.int 1)) aNil)))) (.nm 4) (tAndM (tBl (eBin (fCmpD leI leD) (eBin fAdd (eCall (f1 gSum) (aCons (evar 3) aNil)) (evar 4)) (evar 0))) (tBl (eBin (fCmpD geI geD) (eBin fMul (cst (.int 2)) (eBin fAdd (eCall (f1 gSum) (aCons (evar 3) aNil)) (evar 4))) (eBin fAdd (eCall (f1 gLen) (aCons (evar 3) aNil)) (cst (.int 1)))))) (eBin fAdd (evar 3) (eTup (aCons (evar 4) aNil))) [3, 4])))
  (sRet (evar 1))))
def f_all_bits : FX := mkFn 5 1 m_all_bits
theorem ar_all_bits : Ar 1 f_all_bits := ar_mk
theorem d_all_bits (hh : HH K mg) (B : Bn mg) (hX : InF X N_all_bits (defScope s_all_bits)) (G : Gx X P w K mg base) (hr : Room 0 X.A) : RSs X (defBody s_all_bits) m_all_bits :=
  (rss_cons (rs_set (hX.lo (by kernel_rfl)) (re_lst (ra_cons (re_tup ra_nil) ra_nil)))
  (rss_cons (rs_for hX.toIn (ri_range1 hX.toIn (by kernel_rfl) (G.no B (x := "range") (by kernel_rfl)) (re_op o_mul re_int (re_var hX.toIn (by kernel_rfl)))) (rg_name (hX.lo (by kernel_rfl))) (rss_one (rs_setComp2 hX.toIn (by kernel_rfl) (by kernel_rfl) (by intro env he; cases env; cases he; rfl) (own := [("row", 3), ("bit", 4)]) (p := (.nm 3)) (t := tYesM) (p1 := (.nm 4)) (t1 := (tAndM (tBl (eBin (fCmpD leI leD) (eBin fAdd (eCall (f1 gSum) (aCons (evar 3) aNil)) (evar 4)) (evar 0))) (tBl (eBin (fCmpD geI geD) (eBin fMul (cst (.int 2)) (eBin fAdd (eCall (f1 gSum) (aCons (evar 3) aNil)) (evar 4))) (eBin fAdd (eCall (f1 gLen) (aCons (evar 3) aNil)) (cst (.int 1))))))) (ri_of (re_var hX.toIn (by kernel_rfl))) (by kernel_rfl) (by rfl) (by rfl) (fun _ _ _ _ _ => (rg_name (hX.toIn.loB (by kernel_rfl)))) (fun _ _ _ _ _ => rts_none) (fun _ _ _ _ _ => (ri_of (re_tup (ra_cons re_int (ra_cons re_int ra_nil))))) (fun _ _ _ _ _ => (rg_name (hX.toIn.loB (by kernel_rfl)))) (fun _ _ _ _ _ => (rts_if (PW.pt (rw_and (rt_cmp (o_leD hX.toIn.blk) (re_op o_add (re_callB hX.toIn.blk (x := "sum") (id := "sum") (c_sum hX.toIn.blk) (by kernel_rfl) (G.blk.no B (x := "sum") (by kernel_rfl)) (by rfl) (ra_cons (re_var hX.toIn.blk (by kernel_rfl)) ra_nil)) (re_var hX.toIn.blk (by kernel_rfl))) (re_var hX.toIn.blk (by kernel_rfl)) (nomark _)) (rw_and1 (rt_cmp (o_geD hX.toIn.blk) (re_op o_mul re_int (re_op o_add (re_callB hX.toIn.blk (x := "sum") (id := "sum") (c_sum hX.toIn.blk) (by kernel_rfl) (G.blk.no B (x := "sum") (by kernel_rfl)) (by rfl) (ra_cons (re_var hX.toIn.blk (by kernel_rfl)) ra_nil)) (re_var hX.toIn.blk (by kernel_rfl)))) (re_op o_add (re_callB hX.toIn.blk (x := "len") (id := "len") c_len (by kernel_rfl) (G.blk.no B (x := "len") (by kernel_rfl)) (by rfl) (ra_cons (re_var hX.toIn.blk (by kernel_rfl)) ra_nil)) re_int) (nomark _))))))) (fun _ _ _ _ _ => (re_op o_add (re_var hX.toIn.blk (by kernel_rfl)) (re_tup (ra_cons (re_var hX.toIn.blk (by kernel_rfl)) ra_nil)))))))
  (rss_one (rs_ret (re_var hX.toIn (by kernel_rfl))))))
theorem c_all_bits (hh : HH K mg) (B : Bn mg) : Cl P w K mg base 1 "all_bits" ["pairs"] f_all_bits := by
  obtain ⟨a, fd, F, hm⟩ := hh.F_all_bits
  exact cl_of (N := N_all_bits) F hm (by kernel_rfl) (fun _ _ _ _ _ _ us hl => match us, hl with | [_], _ => rfl) (fun _ _ _ _ _ _ us hl => match us, hl with | [_], _ => rfl) fun X hX G hr => d_all_bits hh B hX G hr
def N_all_links_in : List Str := ["pairs", "bits"]
def m_all_links_in : SX :=
  (sRet (eCall (f1 gSorted) (aCons (eComp (iOf (eCall (callM f_all_bits) (aCons (evar 0) aNil))) (.nm 1) tYesM (eCall (callM f_links_by) (aCons (evar 1) aNil)) [1]) aNil)))
def f_all_links_in : FX := mkFn 2 1 m_all_links_in
theorem ar_all_links_in : Ar 1 f_all_links_in := ar_mk
theorem d_all_links_in (hh : HH K mg) (B : Bn mg) (hX : InF X N_all_links_in (defScope s_all_links_in)) (G : Gx X P w K mg base) (hr : Room 1 X.A) : RSs X (defBody s_all_links_in) m_all_links_in :=
  (rss_one (rs_ret (re_callB hX.toIn (x := "sorted") (id := "sorted") (c_sorted hX.toIn) (by kernel_rfl) (G.no B (x := "sorted") (by kernel_rfl)) (by rfl) (ra_cons (re_comp hX.toIn (own := [("bits", 1)]) (p := (.nm 1)) (t := tYesM) (ri_of (re_call hX.toIn G (c_all_bits (base := base) (w := w) hh B) ar_all_bits hr (by first | decide | omega) (by kernel_rfl) (ra_cons (re_var hX.toIn (by kernel_rfl)) ra_nil))) (by kernel_rfl) (by rfl) (fun _ _ _ _ _ => (rg_name (hX.toIn.loB (by kernel_rfl)))) (fun _ _ _ _ _ => rts_none) (fun _ _ _ _ _ => (re_call hX.toIn.blk G.blk (c_links_by (base := base) (w := w) hh B) ar_links_by hr (by first | decide | omega) (by kernel_rfl) (ra_cons (re_var hX.toIn.blk (by kernel_rfl)) ra_nil)))) ra_nil))))
theorem c_all_links_in (hh : HH K mg) (B : Bn mg) : Cl P w K mg base 2 "all_links_in" ["pairs"] f_all_links_in := by
  obtain ⟨a, fd, F, hm⟩ := hh.F_all_links_in
  exact cl_of (N := N_all_links_in) F hm (by kernel_rfl) (fun _ _ _ _ _ _ us hl => match us, hl with | [_], _ => rfl) (fun _ _ _ _ _ _ us hl => match us, hl with | [_], _ => rfl) fun X hX G hr => d_all_links_in hh B hX G hr
def N_turned_in : List Str := ["links", "steps", "many", "place"]
def m_turned_in : SX :=
  (sSeq (sPat (.nm 2) (eCall (f1 gLen) (aCons (evar 0) aNil)))
  (sRet (eCall (f1 gTuple) (aCons (eComp (iRange (aCons (evar 2) aNil)) (.nm 3) tYesM (eBin fMod (eBin fAdd (eBin fIx (evar 0) (eBin fMod (eBin fSub (evar 3) (evar 1)) (evar 2))) (evar 1)) (evar 2)) [3]) aNil))))
def f_turned_in : FX := mkFn 4 2 m_turned_in
theorem ar_turned_in : Ar 2 f_turned_in := ar_mk
theorem d_turned_in (hh : HH K mg) (B : Bn mg) (hX : InF X N_turned_in (defScope s_turned_in)) (G : Gx X P w K mg base) (hr : Room 0 X.A) : RSs X (defBody s_turned_in) m_turned_in :=
  (rss_cons (rs_set (hX.lo (by kernel_rfl)) (re_callB hX.toIn (x := "len") (id := "len") c_len (by kernel_rfl) (G.no B (x := "len") (by kernel_rfl)) (by rfl) (ra_cons (re_var hX.toIn (by kernel_rfl)) ra_nil)))
  (rss_one (rs_ret (re_callTy hX.toIn (x := "tuple") (T := "tuple") c_tuple (by kernel_rfl) (G.no B (x := "tuple") (by kernel_rfl)) (by rfl) (ra_cons (re_comp hX.toIn (own := [("place", 3)]) (p := (.nm 3)) (t := tYesM) (ri_range1 hX.toIn (by kernel_rfl) (G.no B (x := "range") (by kernel_rfl)) (re_var hX.toIn (by kernel_rfl))) (by kernel_rfl) (by rfl) (fun _ _ _ _ _ => (rg_name (hX.toIn.loB (by kernel_rfl)))) (fun _ _ _ _ _ => rts_none) (fun _ _ _ _ _ => (re_op o_mod (re_op o_add (re_ix (re_var hX.toIn.blk (by kernel_rfl)) (re_op o_mod (re_op o_sub (re_var hX.toIn.blk (by kernel_rfl)) (re_var hX.toIn.blk (by kernel_rfl))) (re_var hX.toIn.blk (by kernel_rfl)))) (re_var hX.toIn.blk (by kernel_rfl))) (re_var hX.toIn.blk (by kernel_rfl))))) ra_nil)))))
theorem c_turned_in (hh : HH K mg) (B : Bn mg) : Cl P w K mg base 1 "turned_in" ["links", "steps"] f_turned_in := by
  obtain ⟨a, fd, F, hm⟩ := hh.F_turned_in
  exact cl_of (N := N_turned_in) F hm (by kernel_rfl) (fun _ _ _ _ _ _ us hl => match us, hl with | [_, _], _ => rfl) (fun _ _ _ _ _ _ us hl => match us, hl with | [_, _], _ => rfl) fun X hX G hr => d_turned_in hh B hX G hr
def N_sure_pairs : List Str := ["pairs", "most"]
def m_sure_pairs : SX :=
  (sSeq (sIf (tNotM (tTru (eCall (callM f_is_within) (aCons (evar 0) (aCons (cst (.int 1)) (aCons (evar 1) aNil)))))) sErr sNil)
  (sRet (evar 0)))
def f_sure_pairs : FX := mkFn 2 2 m_sure_pairs
theorem ar_sure_pairs : Ar 2 f_sure_pairs := ar_mk
theorem d_sure_pairs (hh : HH K mg) (B : Bn mg) (hX : InF X N_sure_pairs (defScope s_sure_pairs)) (G : Gx X P w K mg base) (hr : Room 3 X.A) : RSs X (defBody s_sure_pairs) m_sure_pairs :=
  (rss_cons (rs_if (rt_not (rt_tru (re_call hX.toIn G (c_is_within (base := base) (w := w) hh B) ar_is_within hr (by first | decide | omega) (by kernel_rfl) (ra_cons (re_var hX.toIn (by kernel_rfl)) (ra_cons re_int (ra_cons (re_var hX.toIn (by kernel_rfl)) ra_nil)))))) (rss_one rs_err) rss_nil)
  (rss_one (rs_ret (re_var hX.toIn (by kernel_rfl)))))
theorem c_sure_pairs (hh : HH K mg) (B : Bn mg) : Cl P w K mg base 4 "sure_pairs" ["pairs", "most"] f_sure_pairs := by
  obtain ⟨a, fd, F, hm⟩ := hh.F_sure_pairs
  exact cl_of (N := N_sure_pairs) F hm (by kernel_rfl) (fun _ _ _ _ _ _ us hl => match us, hl with | [_, _], _ => rfl) (fun _ _ _ _ _ _ us hl => match us, hl with | [_, _], _ => rfl) fun X hX G hr => d_sure_pairs hh B hX G hr
def N_is_links : List Str := ["thing"]
def m_is_links : SX :=
  (sRet (eCall (callM f_is_links_of) (aCons (evar 0) aNil)))
def f_is_links : FX := mkFn 1 1 m_is_links
theorem ar_is_links : Ar 1 f_is_links := ar_mk
theorem d_is_links (hh : HH K mg) (B : Bn mg) (hX : InF X N_is_links (defScope s_is_links)) (G : Gx X P w K mg base) (hr : Room 4 X.A) : RSs X (defBody s_is_links) m_is_links :=
  (rss_one (rs_ret (re_call hX.toIn G (c_is_links_of (base := base) (w := w) hh B) ar_is_links_of hr (by first | decide | omega) (by kernel_rfl) (ra_cons (re_var hX.toIn (by kernel_rfl)) ra_nil))))
theorem c_is_links (hh : HH K mg) (B : Bn mg) : Cl P w K mg base 5 "is_links" ["thing"] f_is_links := by
  obtain ⟨a, fd, F, hm⟩ := hh.F_is_links
  exact cl_of (N := N_is_links) F hm (by kernel_rfl) (fun _ _ _ _ _ _ us hl => match us, hl with | [_], _ => rfl) (fun _ _ _ _ _ _ us hl => match us, hl with | [_], _ => rfl) fun X hX G hr => d_is_links hh B hX G hr
def N_all_links : List Str := ["pairs"]
def m_all_links : SX :=
  (sSeq (sIf (tBl (eBin (fCmpD gtI gtD) (eCall (callM f_sure_pairs) (aCons (evar 0) (aCons (cst (.int 18)) aNil))) (cst (.int 8)))) sErr sNil)
  (sRet (eCall (callM f_all_links_in) (aCons (evar 0) aNil))))
def f_all_links : FX := mkFn 1 1 m_all_links
theorem ar_all_links : Ar 1 f_all_links := ar_mk
theorem d_all_links (hh : HH K mg) (B : Bn mg) (hX : InF X N_all_links (defScope s_all_links)) (G : Gx X P w K mg base) (hr : Room 4 X.A) : RSs X (defBody s_all_links) m_all_links :=
  (rss_cons (rs_if (rt_cmp (o_gtD hX.toIn) (re_call hX.toIn G (c_sure_pairs (base := base) (w := w) hh B) ar_sure_pairs hr (by first | decide | omega) (by kernel_rfl) (ra_cons (re_var hX.toIn (by kernel_rfl)) (ra_cons (re_globI hX.toIn G (by kernel_rfl) hh.c_MOST (by decide)) ra_nil))) re_int (nomark _)) (rss_one rs_err) rss_nil)
  (rss_one (rs_ret (re_call hX.toIn G (c_all_links_in (base := base) (w := w) hh B) ar_all_links_in hr (by first | decide | omega) (by kernel_rfl) (ra_cons (re_var hX.toIn (by kernel_rfl)) ra_nil)))))
theorem c_all_links (hh : HH K mg) (B : Bn mg) : Cl P w K mg base 5 "all_links" ["pairs"] f_all_links := by
  obtain ⟨a, fd, F, hm⟩ := hh.F_all_links
  exact cl_of (N := N_all_links) F hm (by kernel_rfl) (fun _ _ _ _ _ _ us hl => match us, hl with | [_], _ => rfl) (fun _ _ _ _ _ _ us hl => match us, hl with | [_], _ => rfl) fun X hX G hr => d_all_links hh B hX G hr
def N_how_many_links : List Str := ["pairs", "own"]
def m_how_many_links : SX :=
  (sSeq (sPat (.nm 1) (eCall (callM f_sure_pairs) (aCons (evar 0) (aCons (cst (.int 60)) aNil))))
  (sRet (eBin fDiv (eCall (callM f_picks) (aCons (eBin fMul (cst (.int 2)) (evar 1)) (aCons (evar 1) aNil))) (eBin fAdd (evar 1) (cst (.int 1))))))
def f_how_many_links : FX := mkFn 2 1 m_how_many_links
theorem ar_how_many_links : Ar 1 f_how_many_links := ar_mk
theorem d_how_many_links (hh : HH K mg) (B : Bn mg) (hX : InF X N_how_many_links (defScope s_how_many_links)) (G : Gx X P w K mg base) (hr : Room 4 X.A) : RSs X (defBody s_how_many_links) m_how_many_links :=
  (rss_cons (rs_set (hX.lo (by kernel_rfl)) (re_call hX.toIn G (c_sure_pairs (base := base) (w := w) hh B) ar_sure_pairs hr (by first | decide | omega) (by kernel_rfl) (ra_cons (re_var hX.toIn (by kernel_rfl)) (ra_cons re_int ra_nil))))
  (rss_one (rs_ret (re_op o_div (re_call hX.toIn G (c_picks (base := base) (w := w) hh B) ar_picks hr (by first | decide | omega) (by kernel_rfl) (ra_cons (re_op o_mul re_int (re_var hX.toIn (by kernel_rfl))) (ra_cons (re_var hX.toIn (by kernel_rfl)) ra_nil))) (re_op o_add (re_var hX.toIn (by kernel_rfl)) re_int)))))
theorem c_how_many_links (hh : HH K mg) (B : Bn mg) : Cl P w K mg base 5 "how_many_links" ["pairs"] f_how_many_links := by
  obtain ⟨a, fd, F, hm⟩ := hh.F_how_many_links
  exact cl_of (N := N_how_many_links) F hm (by kernel_rfl) (fun _ _ _ _ _ _ us hl => match us, hl with | [_], _ => rfl) (fun _ _ _ _ _ _ us hl => match us, hl with | [_], _ => rfl) fun X hX G hr => d_how_many_links hh B hX G hr
def N_link_bits : List Str := ["links"]
def m_link_bits : SX :=
  (sRet (eCall (callM f_signs_of_links) (aCons (eCall (callM f_sure_links) (aCons (evar 0) aNil)) aNil)))
def f_link_bits : FX := mkFn 1 1 m_link_bits
theorem ar_link_bits : Ar 1 f_link_bits := ar_mk
theorem d_link_bits (hh : HH K mg) (B : Bn mg) (hX : InF X N_link_bits (defScope s_link_bits)) (G : Gx X P w K mg base) (hr : Room 10 X.A) : RSs X (defBody s_link_bits) m_link_bits :=
  (rss_one (rs_ret (re_call hX.toIn G (c_signs_of_links (base := base) (w := w) hh B) ar_signs_of_links hr (by first | decide | omega) (by kernel_rfl) (ra_cons (re_call hX.toIn G (c_sure_links (base := base) (w := w) hh B) ar_sure_links hr (by first | decide | omega) (by kernel_rfl) (ra_cons (re_var hX.toIn (by kernel_rfl)) ra_nil)) ra_nil))))
theorem c_link_bits (hh : HH K mg) (B : Bn mg) : Cl P w K mg base 11 "link_bits" ["links"] f_link_bits := by
  obtain ⟨a, fd, F, hm⟩ := hh.F_link_bits
  exact cl_of (N := N_link_bits) F hm (by kernel_rfl) (fun _ _ _ _ _ _ us hl => match us, hl with | [_], _ => rfl) (fun _ _ _ _ _ _ us hl => match us, hl with | [_], _ => rfl) fun X hX G hr => d_link_bits hh B hX G hr
def N_links_of_bits : List Str := ["bits", "own", "heads", "place", "bit"]
def m_links_of_bits : SX :=
  (sSeq (sPat (.nm 1) (eCall (callM (f_tupled 8)) (aCons (evar 0) aNil)))
  (sSeq (sIf (tOrM (tNotM (tTru (eCall (f2 gIsi) (aCons (evar 1) (aCons (cst (.ty "tuple")) aNil))))) (tOrM (tNotM (tBl (eChain (fCmpD leI leD) (fCmpD leI leD) (cst (.int 2)) (eCall (f1 gLen) (aCons (evar 1) aNil)) (eBin fMul (cst (.int 2)) (cst (.int 18)))))) (tNotM (tTru (eCall (f1 gAll) (aCons (eComp (iOf (evar 1)) (.nm 4) tYesM (eCall (callM f_is_below) (aCons (evar 4) (aCons (cst (.int 2)) aNil))) [4]) aNil)))))) sErr sNil)
  (sSeq (sPat (.nm 2) (eComp (iRange (aCons (eBin fAdd (eCall (f1 gLen) (aCons (evar 1) aNil)) (cst (.int 1))) aNil)) (.nm 3) tYesM (eBin fSub (eBin fMul (cst (.int 2)) (eCall (f1 gSum) (aCons (eSl (evar 1) oNone (oSome (evar 3))) aNil))) (evar 3)) [3]))
  (sSeq (sIf (tOrM (tBl (eBin (fCmpD ltI ltD) (eCall fMin (aCons (evar 2) aNil)) (cst (.int 0)))) (tBl (eBin (fEq true) (eBin fIx (evar 2) (eUn fNeg (cst (.int 1)))) (cst (.int 0))))) sErr sNil)
  (sRet (eCall (callM f_links_by) (aCons (evar 1) aNil)))))))
def f_links_of_bits : FX := mkFn 5 1 m_links_of_bits
theorem ar_links_of_bits : Ar 1 f_links_of_bits := ar_mk
theorem d_links_of_bits (hh : HH K mg) (B : Bn mg) (hX : InF X N_links_of_bits (defScope s_links_of_bits)) (G : Gx X P w K mg base) (hr : Room 9 X.A) : RSs X (defBody s_links_of_bits) m_links_of_bits :=
  (rss_cons (rs_set (hX.lo (by kernel_rfl)) (re_call hX.toIn G (c_tupled (base := base) (w := w) hh B 8) (ar_tupled 8) hr (by first | decide | omega) (by kernel_rfl) (ra_cons (re_var hX.toIn (by kernel_rfl)) ra_nil)))
  (rss_cons (rs_if (PW.pt (rw_or (rt_not (rt_tru (re_callB hX.toIn (x := "isinstance") (id := "isinstance") c_isi (by kernel_rfl) (G.no B (x := "isinstance") (by kernel_rfl)) (by rfl) (ra_cons (re_var hX.toIn (by kernel_rfl)) (ra_cons (re_type hX.toIn (x := "tuple") (by kernel_rfl) (G.no B (x := "tuple") (by kernel_rfl)) (by rfl)) ra_nil))))) (rw_or (rt_not (rt_chain (o_leD hX.toIn) (o_leD hX.toIn) re_int (re_callB hX.toIn (x := "len") (id := "len") c_len (by kernel_rfl) (G.no B (x := "len") (by kernel_rfl)) (by rfl) (ra_cons (re_var hX.toIn (by kernel_rfl)) ra_nil)) (re_op o_mul re_int (re_globI hX.toIn G (by kernel_rfl) hh.c_MOST (by decide))) (by rfl))) (rw_or1 (rt_not (rt_tru (re_callB hX.toIn (x := "all") (id := "all") (c_all hX.toIn) (by kernel_rfl) (G.no B (x := "all") (by kernel_rfl)) (by rfl) (ra_cons (re_comp hX.toIn (own := [("bit", 4)]) (p := (.nm 4)) (t := tYesM) (ri_of (re_var hX.toIn (by kernel_rfl))) (by kernel_rfl) (by rfl) (fun _ _ _ _ _ => (rg_name (hX.toIn.loB (by kernel_rfl)))) (fun _ _ _ _ _ => rts_none) (fun _ _ _ _ _ => (re_call hX.toIn.blk G.blk (c_is_below (base := base) (w := w) hh B) ar_is_below hr (by first | decide | omega) (by kernel_rfl) (ra_cons (re_var hX.toIn.blk (by kernel_rfl)) (ra_cons re_int ra_nil))))) ra_nil)))))))) (rss_one rs_err) rss_nil)
  (rss_cons (rs_setComp hX.toIn (by kernel_rfl) (by kernel_rfl) (by intro env he; cases env; cases he; rfl) (own := [("place", 3)]) (p := (.nm 3)) (t := tYesM) (ri_range1 hX.toIn (by kernel_rfl) (G.no B (x := "range") (by kernel_rfl)) (re_op o_add (re_callB hX.toIn (x := "len") (id := "len") c_len (by kernel_rfl) (G.no B (x := "len") (by kernel_rfl)) (by rfl) (ra_cons (re_var hX.toIn (by kernel_rfl)) ra_nil)) re_int)) (by kernel_rfl) (by rfl) (fun _ _ _ _ _ => (rg_name (hX.toIn.loB (by kernel_rfl)))) (fun _ _ _ _ _ => rts_none) (fun _ _ _ _ _ => (re_op o_sub (re_op o_mul re_int (re_callB hX.toIn.blk (x := "sum") (id := "sum") (c_sum hX.toIn.blk) (by kernel_rfl) (G.blk.no B (x := "sum") (by kernel_rfl)) (by rfl) (ra_cons (re_sl (re_var hX.toIn.blk (by kernel_rfl)) ro_none (ro_some (re_var hX.toIn.blk (by kernel_rfl)))) ra_nil))) (re_var hX.toIn.blk (by kernel_rfl)))))
  (rss_cons (rs_if (PW.pt (rw_or (rt_cmp (o_ltD hX.toIn) (re_callB hX.toIn (x := "min") (id := "min") (c_min hX.toIn) (by kernel_rfl) (G.no B (x := "min") (by kernel_rfl)) (by rfl) (ra_cons (re_var hX.toIn (by kernel_rfl)) ra_nil)) re_int (nomark _)) (rw_or1 (rt_cmp (o_ne hX.toIn) (re_ix (re_var hX.toIn (by kernel_rfl)) (re_un o_neg re_int)) re_int (nomark _))))) (rss_one rs_err) rss_nil)
  (rss_one (rs_ret (re_call hX.toIn G (c_links_by (base := base) (w := w) hh B) ar_links_by hr (by first | decide | omega) (by kernel_rfl) (ra_cons (re_var hX.toIn (by kernel_rfl)) ra_nil))))))))
theorem c_links_of_bits (hh : HH K mg) (B : Bn mg) : Cl P w K mg base 10 "links_of_bits" ["bits"] f_links_of_bits := by
  obtain ⟨a, fd, F, hm⟩ := hh.F_links_of_bits
  exact cl_of (N := N_links_of_bits) F hm (by kernel_rfl) (fun _ _ _ _ _ _ us hl => match us, hl with | [_], _ => rfl) (fun _ _ _ _ _ _ us hl => match us, hl with | [_], _ => rfl) fun X hX G hr => d_links_of_bits hh B hX G hr
def N_links_turned : List Str := ["links", "steps", "own"]
def m_links_turned : SX :=
  (sSeq (sPat (.nm 2) (eCall (callM f_sure_links) (aCons (evar 0) aNil)))
  (sSeq (sIf (tOrM (tNotM (tTru (eCall (callM f_is_from) (aCons (evar 1) (aCons (eUn fNeg (cst (.int 1000))) aNil))))) (tBl (eBin (fCmpD gtI gtD) (evar 1) (cst (.int 1000))))) sErr sNil)
  (sRet (eCall (callM f_turned_in) (aCons (evar 2) (aCons (evar 1) aNil))))))
def f_links_turned : FX := mkFn 3 2 m_links_turned
theorem ar_links_turned : Ar 2 f_links_turned := ar_mk
theorem d_links_turned (hh : HH K mg) (B : Bn mg) (hX : InF X N_links_turned (defScope s_links_turned)) (G : Gx X P w K mg base) (hr : Room 10 X.A) : RSs X (defBody s_links_turned) m_links_turned :=
  (rss_cons (rs_set (hX.lo (by kernel_rfl)) (re_call hX.toIn G (c_sure_links (base := base) (w := w) hh B) ar_sure_links hr (by first | decide | omega) (by kernel_rfl) (ra_cons (re_var hX.toIn (by kernel_rfl)) ra_nil)))
  (rss_cons (rs_if (PW.pt (rw_or (rt_not (rt_tru (re_call hX.toIn G (c_is_from (base := base) (w := w) hh B) ar_is_from hr (by first | decide | omega) (by kernel_rfl) (ra_cons (re_var hX.toIn (by kernel_rfl)) (ra_cons (re_un o_neg re_int) ra_nil))))) (rw_or1 (rt_cmp (o_gtD hX.toIn) (re_var hX.toIn (by kernel_rfl)) re_int (nomark _))))) (rss_one rs_err) rss_nil)
  (rss_one (rs_ret (re_call hX.toIn G (c_turned_in (base := base) (w := w) hh B) ar_turned_in hr (by first | decide | omega) (by kernel_rfl) (ra_cons (re_var hX.toIn (by kernel_rfl)) (ra_cons (re_var hX.toIn (by kernel_rfl)) ra_nil)))))))
theorem c_links_turned (hh : HH K mg) (B : Bn mg) : Cl P w K mg base 11 "links_turned" ["links", "steps"] f_links_turned := by
  obtain ⟨a, fd, F, hm⟩ := hh.F_links_turned
  exact cl_of (N := N_links_turned) F hm (by kernel_rfl) (fun _ _ _ _ _ _ us hl => match us, hl with | [_, _], _ => rfl) (fun _ _ _ _ _ _ us hl => match us, hl with | [_, _], _ => rfl) fun X hX G hr => d_links_turned hh B hX G hr
def N_links_mirrored : List Str := ["links", "own", "its"]
def m_links_mirrored : SX :=
  (sSeq (sPat (.nm 1) (eCall (callM f_sure_links) (aCons (evar 0) aNil)))
  (sRet (eCall (f1 gTuple) (aCons (eComp (iOf (eUn fRev (evar 1))) (.nm 2) tYesM (eBin fSub (eBin fSub (eCall (f1 gLen) (aCons (evar 1) aNil)) (cst (.int 1))) (evar 2)) [2]) aNil))))
def f_links_mirrored : FX := mkFn 3 1 m_links_mirrored
theorem ar_links_mirrored : Ar 1 f_links_mirrored := ar_mk
theorem d_links_mirrored (hh : HH K mg) (B : Bn mg) (hX : InF X N_links_mirrored (defScope s_links_mirrored)) (G : Gx X P w K mg base) (hr : Room 10 X.A) : RSs X (defBody s_links_mirrored) m_links_mirrored :=
  (rss_cons (rs_set (hX.lo (by kernel_rfl)) (re_call hX.toIn G (c_sure_links (base := base) (w := w) hh B) ar_sure_links hr (by first | decide | omega) (by kernel_rfl) (ra_cons (re_var hX.toIn (by kernel_rfl)) ra_nil)))
  (rss_one (rs_ret (re_callTy hX.toIn (x := "tuple") (T := "tuple") c_tuple (by kernel_rfl) (G.no B (x := "tuple") (by kernel_rfl)) (by rfl) (ra_cons (re_comp hX.toIn (own := [("its", 2)]) (p := (.nm 2)) (t := tYesM) (ri_of (re_rev (re_var hX.toIn (by kernel_rfl)))) (by kernel_rfl) (by rfl) (fun _ _ _ _ _ => (rg_name (hX.toIn.loB (by kernel_rfl)))) (fun _ _ _ _ _ => rts_none) (fun _ _ _ _ _ => (re_op o_sub (re_op o_sub (re_callB hX.toIn.blk (x := "len") (id := "len") c_len (by kernel_rfl) (G.blk.no B (x := "len") (by kernel_rfl)) (by rfl) (ra_cons (re_var hX.toIn.blk (by kernel_rfl)) ra_nil)) re_int) (re_var hX.toIn.blk (by kernel_rfl))))) ra_nil)))))
theorem c_links_mirrored (hh : HH K mg) (B : Bn mg) : Cl P w K mg base 11 "links_mirrored" ["links"] f_links_mirrored := by
  obtain ⟨a, fd, F, hm⟩ := hh.F_links_mirrored
  exact cl_of (N := N_links_mirrored) F hm (by kernel_rfl) (fun _ _ _ _ _ _ us hl => match us, hl with | [_], _ => rfl) (fun _ _ _ _ _ _ us hl => match us, hl with | [_], _ => rfl) fun X hX G hr => d_links_mirrored hh B hX G hr
def N_nested_links : List Str := ["pairs", "own"]
def m_nested_links : SX :=
  (sSeq (sPat (.nm 1) (eCall (callM f_sure_pairs) (aCons (evar 0) (aCons (cst (.int 18)) aNil))))
  (sRet (eTupRg3 (aCons (eBin fSub (eBin fMul (cst (.int 2)) (evar 1)) (cst (.int 1))) (aCons (eUn fNeg (cst (.int 1))) (aCons (eUn fNeg (cst (.int 1))) aNil))))))
def f_nested_links : FX := mkFn 2 1 m_nested_links
theorem ar_nested_links : Ar 1 f_nested_links := ar_mk
theorem d_nested_links (hh : HH K mg) (B : Bn mg) (hX : InF X N_nested_links (defScope s_nested_links)) (G : Gx X P w K mg base) (hr : Room 4 X.A) : RSs X (defBody s_nested_links) m_nested_links :=
  (rss_cons (rs_set (hX.lo (by kernel_rfl)) (re_call hX.toIn G (c_sure_pairs (base := base) (w := w) hh B) ar_sure_pairs hr (by first | decide | omega) (by kernel_rfl) (ra_cons (re_var hX.toIn (by kernel_rfl)) (ra_cons (re_globI hX.toIn G (by kernel_rfl) hh.c_MOST (by decide)) ra_nil))))
  (rss_one (rs_ret (re_tupleRg3 hX.toIn (by kernel_rfl) (by kernel_rfl) (G.no B (x := "tuple") (by kernel_rfl)) (G.no B (x := "range") (by kernel_rfl)) (re_op o_sub (re_op o_mul re_int (re_var hX.toIn (by kernel_rfl))) re_int) (re_un o_neg re_int) (re_un o_neg re_int)))))
theorem c_nested_links (hh : HH K mg) (B : Bn mg) : Cl P w K mg base 5 "nested_links" ["pairs"] f_nested_links := by
  obtain ⟨a, fd, F, hm⟩ := hh.F_nested_links
  exact cl_of (N := N_nested_links) F hm (by kernel_rfl) (fun _ _ _ _ _ _ us hl => match us, hl with | [_], _ => rfl) (fun _ _ _ _ _ _ us hl => match us, hl with | [_], _ => rfl) fun X hX G hr => d_nested_links hh B hX G hr
def N_short_links : List Str := ["pairs", "own", "place"]
def m_short_links : SX :=
  (sSeq (sPat (.nm 1) (eCall (callM f_sure_pairs) (aCons (evar 0) (aCons (cst (.int 18)) aNil))))
  (sRet (eCall (f1 gTuple) (aCons (eComp (iRange (aCons (eBin fMul (cst (.int 2)) (evar 1)) aNil)) (.nm 2) tYesM (eBin fSub (eBin fAdd (evar 2) (cst (.int 1))) (eBin fMul (cst (.int 2)) (eBin fMod (evar 2) (cst (.int 2))))) [2]) aNil))))
def f_short_links : FX := mkFn 3 1 m_short_links
theorem ar_short_links : Ar 1 f_short_links := ar_mk
theorem d_short_links (hh : HH K mg) (B : Bn mg) (hX : InF X N_short_links (defScope s_short_links)) (G : Gx X P w K mg base) (hr : Room 4 X.A) : RSs X (defBody s_short_links) m_short_links :=
  (rss_cons (rs_set (hX.lo (by kernel_rfl)) (re_call hX.toIn G (c_sure_pairs (base := base) (w := w) hh B) ar_sure_pairs hr (by first | decide | omega) (by kernel_rfl) (ra_cons (re_var hX.toIn (by kernel_rfl)) (ra_cons (re_globI hX.toIn G (by kernel_rfl) hh.c_MOST (by decide)) ra_nil))))
  (rss_one (rs_ret (re_callTy hX.toIn (x := "tuple") (T := "tuple") c_tuple (by kernel_rfl) (G.no B (x := "tuple") (by kernel_rfl)) (by rfl) (ra_cons (re_comp hX.toIn (own := [("place", 2)]) (p := (.nm 2)) (t := tYesM) (ri_range1 hX.toIn (by kernel_rfl) (G.no B (x := "range") (by kernel_rfl)) (re_op o_mul re_int (re_var hX.toIn (by kernel_rfl)))) (by kernel_rfl) (by rfl) (fun _ _ _ _ _ => (rg_name (hX.toIn.loB (by kernel_rfl)))) (fun _ _ _ _ _ => rts_none) (fun _ _ _ _ _ => (re_op o_sub (re_op o_add (re_var hX.toIn.blk (by kernel_rfl)) re_int) (re_op o_mul re_int (re_op o_mod (re_var hX.toIn.blk (by kernel_rfl)) re_int))))) ra_nil)))))
theorem c_short_links (hh : HH K mg) (B : Bn mg) : Cl P w K mg base 5 "short_links" ["pairs"] f_short_links := by
  obtain ⟨a, fd, F, hm⟩ := hh.F_short_links
  exact cl_of (N := N_short_links) F hm (by kernel_rfl) (fun _ _ _ _ _ _ us hl => match us, hl with | [_], _ => rfl) (fun _ _ _ _ _ _ us hl => match us, hl with | [_], _ => rfl) fun X hX G hr => d_short_links hh B hX G hr
def N_moved_in : List Str := ["links", "end", "far", "found", "one", "two"]
def m_moved_in : SX :=
  (sSeq (sPar 2 3 (aCons (eBin fMod (eBin fAdd (evar 1) (cst (.int 1))) (eCall (f1 gLen) (aCons (evar 0) aNil))) (aCons (eCall (f1 gList) (aCons (evar 0) aNil)) aNil)))
  (sSeq (sIf (tBl (eBin (fEq false) (eBin fIx (evar 0) (evar 1)) (evar 2))) (sRet (evar 0)) sNil)
  (sSeq (sPar 4 5 (aCons (eBin fIx (evar 0) (evar 1)) (aCons (eBin fIx (evar 0) (evar 2)) aNil)))
  (sSeq (sTgs [(.sub (evar 3) (evar 4)), (.sub (evar 3) (evar 5)), (.sub (evar 3) (evar 1)), (.sub (evar 3) (evar 2))] (eTup (aCons (evar 5) (aCons (evar 4) (aCons (evar 2) (aCons (evar 1) aNil))))))
  (sRet (eCall (f1 gTuple) (aCons (evar 3) aNil)))))))
def f_moved_in : FX := mkFn 6 2 m_moved_in
theorem ar_moved_in : Ar 2 f_moved_in := ar_mk
theorem d_moved_in (hh : HH K mg) (B : Bn mg) (hX : InF X N_moved_in (defScope s_moved_in)) (G : Gx X P w K mg base) (hr : Room 0 X.A) : RSs X (defBody s_moved_in) m_moved_in :=
  (rss_cons (rs_par hX.toIn (by kernel_rfl) (by kernel_rfl) (by rfl) (by kernel_rfl) (by kernel_rfl) (ra_cons (re_op o_mod (re_op o_add (re_var hX.toIn (by kernel_rfl)) re_int) (re_callB hX.toIn (x := "len") (id := "len") c_len (by kernel_rfl) (G.no B (x := "len") (by kernel_rfl)) (by rfl) (ra_cons (re_var hX.toIn (by kernel_rfl)) ra_nil))) (ra_cons (re_callTy hX.toIn (x := "list") (T := "list") c_list (by kernel_rfl) (G.no B (x := "list") (by kernel_rfl)) (by rfl) (ra_cons (re_var hX.toIn (by kernel_rfl)) ra_nil)) ra_nil)) (by intro env he; cases env; cases he; rfl))
  (rss_cons (rs_if (rt_cmp (o_eq hX.toIn) (re_ix (re_var hX.toIn (by kernel_rfl)) (re_var hX.toIn (by kernel_rfl))) (re_var hX.toIn (by kernel_rfl)) (nomark _)) (rss_one (rs_ret (re_var hX.toIn (by kernel_rfl)))) rss_nil)
  (rss_cons (rs_par hX.toIn (by kernel_rfl) (by kernel_rfl) (by rfl) (by kernel_rfl) (by kernel_rfl) (ra_cons (re_ix (re_var hX.toIn (by kernel_rfl)) (re_var hX.toIn (by kernel_rfl))) (ra_cons (re_ix (re_var hX.toIn (by kernel_rfl)) (re_var hX.toIn (by kernel_rfl))) ra_nil)) (by intro env he; cases env; cases he; rfl))
  (rss_cons (rs_tgsS hX.toIn (rts_cons (rt_sub (re_var hX.toIn (by kernel_rfl)) (re_var hX.toIn (by kernel_rfl)) (by intro _; rfl)) (rts_cons (rt_sub (re_var hX.toIn (by kernel_rfl)) (re_var hX.toIn (by kernel_rfl)) (by intro _; rfl)) (rts_cons (rt_sub (re_var hX.toIn (by kernel_rfl)) (re_var hX.toIn (by kernel_rfl)) (by intro _; rfl)) (rts_cons (rt_sub (re_var hX.toIn (by kernel_rfl)) (re_var hX.toIn (by kernel_rfl)) (by intro _; rfl)) rts_nil)))) (re_tup (ra_cons (re_var hX.toIn (by kernel_rfl)) (ra_cons (re_var hX.toIn (by kernel_rfl)) (ra_cons (re_var hX.toIn (by kernel_rfl)) (ra_cons (re_var hX.toIn (by kernel_rfl)) ra_nil))))) (by intro env he; cases env; cases he; rfl))
  (rss_one (rs_ret (re_callTy hX.toIn (x := "tuple") (T := "tuple") c_tuple (by kernel_rfl) (G.no B (x := "tuple") (by kernel_rfl)) (by rfl) (ra_cons (re_var hX.toIn (by kernel_rfl)) ra_nil))))))))
theorem c_moved_in (hh : HH K mg) (B : Bn mg) : Cl P w K mg base 1 "moved_in" ["links", "end"] f_moved_in := by
  obtain ⟨a, fd, F, hm⟩ := hh.F_moved_in
  exact cl_of (N := N_moved_in) F hm (by kernel_rfl) (fun _ _ _ _ _ _ us hl => match us, hl with | [_, _], _ => rfl) (fun _ _ _ _ _ _ us hl => match us, hl with | [_, _], _ => rfl) fun X hX G hr => d_moved_in hh B hX G hr
def N_link_moved : List Str := ["links", "end", "own"]
def m_link_moved : SX :=
  (sSeq (sPat (.nm 2) (eCall (callM f_sure_links) (aCons (evar 0) aNil)))
  (sSeq (sIf (tNotM (tTru (eCall (callM f_is_below) (aCons (evar 1) (aCons (eCall (f1 gLen) (aCons (evar 2) aNil)) aNil))))) sErr sNil)
  (sRet (eCall (callM f_moved_in) (aCons (evar 2) (aCons (evar 1) aNil))))))
def f_link_moved : FX := mkFn 3 2 m_link_moved
theorem ar_link_moved : Ar 2 f_link_moved := ar_mk
theorem d_link_moved (hh : HH K mg) (B : Bn mg) (hX : InF X N_link_moved (defScope s_link_moved)) (G : Gx X P w K mg base) (hr : Room 10 X.A) : RSs X (defBody s_link_moved) m_link_moved :=
  (rss_cons (rs_set (hX.lo (by kernel_rfl)) (re_call hX.toIn G (c_sure_links (base := base) (w := w) hh B) ar_sure_links hr (by first | decide | omega) (by kernel_rfl) (ra_cons (re_var hX.toIn (by kernel_rfl)) ra_nil)))
  (rss_cons (rs_if (rt_not (rt_tru (re_call hX.toIn G (c_is_below (base := base) (w := w) hh B) ar_is_below hr (by first | decide | omega) (by kernel_rfl) (ra_cons (re_var hX.toIn (by kernel_rfl)) (ra_cons (re_callB hX.toIn (x := "len") (id := "len") c_len (by kernel_rfl) (G.no B (x := "len") (by kernel_rfl)) (by rfl) (ra_cons (re_var hX.toIn (by kernel_rfl)) ra_nil)) ra_nil))))) (rss_one rs_err) rss_nil)
  (rss_one (rs_ret (re_call hX.toIn G (c_moved_in (base := base) (w := w) hh B) ar_moved_in hr (by first | decide | omega) (by kernel_rfl) (ra_cons (re_var hX.toIn (by kernel_rfl)) (ra_cons (re_var hX.toIn (by kernel_rfl)) ra_nil)))))))
theorem c_link_moved (hh : HH K mg) (B : Bn mg) : Cl P w K mg base 11 "link_moved" ["links", "end"] f_link_moved := by
  obtain ⟨a, fd, F, hm⟩ := hh.F_link_moved
  exact cl_of (N := N_link_moved) F hm (by kernel_rfl) (fun _ _ _ _ _ _ us hl => match us, hl with | [_, _], _ => rfl) (fun _ _ _ _ _ _ us hl => match us, hl with | [_, _], _ => rfl) fun X hX G hr => d_link_moved hh B hX G hr
def N_links_beside : List Str := ["links", "own", "end"]
def m_links_beside : SX :=
  (sSeq (sPat (.nm 1) (eCall (callM f_sure_links) (aCons (evar 0) aNil)))
  (sRet (eComp (iRange (aCons (eCall (f1 gLen) (aCons (evar 1) aNil)) aNil)) (.nm 2) tYesM (eCall (callM f_moved_in) (aCons (evar 1) (aCons (evar 2) aNil))) [2])))
def f_links_beside : FX := mkFn 3 1 m_links_beside
theorem ar_links_beside : Ar 1 f_links_beside := ar_mk
theorem d_links_beside (hh : HH K mg) (B : Bn mg) (hX : InF X N_links_beside (defScope s_links_beside)) (G : Gx X P w K mg base) (hr : Room 10 X.A) : RSs X (defBody s_links_beside) m_links_beside :=
  (rss_cons (rs_set (hX.lo (by kernel_rfl)) (re_call hX.toIn G (c_sure_links (base := base) (w := w) hh B) ar_sure_links hr (by first | decide | omega) (by kernel_rfl) (ra_cons (re_var hX.toIn (by kernel_rfl)) ra_nil)))
  (rss_one (rs_ret (re_comp hX.toIn (own := [("end", 2)]) (p := (.nm 2)) (t := tYesM) (ri_range1 hX.toIn (by kernel_rfl) (G.no B (x := "range") (by kernel_rfl)) (re_callB hX.toIn (x := "len") (id := "len") c_len (by kernel_rfl) (G.no B (x := "len") (by kernel_rfl)) (by rfl) (ra_cons (re_var hX.toIn (by kernel_rfl)) ra_nil))) (by kernel_rfl) (by rfl) (fun _ _ _ _ _ => (rg_name (hX.toIn.loB (by kernel_rfl)))) (fun _ _ _ _ _ => rts_none) (fun _ _ _ _ _ => (re_call hX.toIn.blk G.blk (c_moved_in (base := base) (w := w) hh B) ar_moved_in hr (by first | decide | omega) (by kernel_rfl) (ra_cons (re_var hX.toIn.blk (by kernel_rfl)) (ra_cons (re_var hX.toIn.blk (by kernel_rfl)) ra_nil))))))))
theorem c_links_beside (hh : HH K mg) (B : Bn mg) : Cl P w K mg base 11 "links_beside" ["links"] f_links_beside := by
  obtain ⟨a, fd, F, hm⟩ := hh.F_links_beside
  exact cl_of (N := N_links_beside) F hm (by kernel_rfl) (fun _ _ _ _ _ _ us hl => match us, hl with | [_], _ => rfl) (fun _ _ _ _ _ _ us hl => match us, hl with | [_], _ => rfl) fun X hX G hr => d_links_beside hh B hX G hr
def N__law_box : List Str := ["script", "k", "bit_so"]
def m__law_box : SX :=
  (sSeq (sPat (.nm 2) (eIf (tBl (eBin (fCmpD ltI ltD) (evar 1) (eCall (f1 gLen) (aCons (evar 0) aNil)))) (eBin fIx (evar 0) (evar 1)) (cst (.int 0))))
  (sRet (eLst (aCons (eBin fMul (eCall (f1 gAbs) (aCons (evar 2) aNil)) (eCall (f1 gInt) (aCons (eBin (fCmpD geI geD) (eCall (f1 gAbs) (aCons (evar 2) aNil)) (eBin fPow (cst (.int 10)) (cst (.int 18)))) aNil))) (aCons (eBin fAdd (eBin fAdd (eBin fMod (eCall (f1 gInt) (aCons (evar 2) aNil)) (cst (.int 2305843009213693951))) (eBin fMul (cst (.int 39373)) (evar 1))) (cst (.int 9172070))) (aCons (cst (.int 0)) aNil))))))
def f__law_box : FX := mkFn 3 2 m__law_box
theorem ar__law_box : Ar 2 f__law_box := ar_mk
theorem d__law_box (hh : HH K mg) (B : Bn mg) (hX : InF X N__law_box (defScope s__law_box)) (G : Gx X P w K mg base) (hr : Room 0 X.A) : RSs X (defBody s__law_box) m__law_box :=
  (rss_cons (rs_set (hX.lo (by kernel_rfl)) (re_if (rt_cmp (o_ltD hX.toIn) (re_var hX.toIn (by kernel_rfl)) (re_callB hX.toIn (x := "len") (id := "len") c_len (by kernel_rfl) (G.no B (x := "len") (by kernel_rfl)) (by rfl) (ra_cons (re_var hX.toIn (by kernel_rfl)) ra_nil)) (nomark _)) (re_ix (re_var hX.toIn (by kernel_rfl)) (re_var hX.toIn (by kernel_rfl))) re_int))
  (rss_one (rs_ret (re_lst (ra_cons (re_op o_mul (re_callB hX.toIn (x := "abs") (id := "abs") c_abs (by kernel_rfl) (G.no B (x := "abs") (by kernel_rfl)) (by rfl) (ra_cons (re_var hX.toIn (by kernel_rfl)) ra_nil)) (re_callTy hX.toIn (x := "int") (T := "int") c_int (by kernel_rfl) (G.no B (x := "int") (by kernel_rfl)) (by rfl) (ra_cons (re_cmp (o_geD hX.toIn) (re_callB hX.toIn (x := "abs") (id := "abs") c_abs (by kernel_rfl) (G.no B (x := "abs") (by kernel_rfl)) (by rfl) (ra_cons (re_var hX.toIn (by kernel_rfl)) ra_nil)) (re_op o_pow re_int re_int) (nomark _)) ra_nil))) (ra_cons (re_op o_add (re_op o_add (re_op o_mod (re_callTy hX.toIn (x := "int") (T := "int") c_int (by kernel_rfl) (G.no B (x := "int") (by kernel_rfl)) (by rfl) (ra_cons (re_var hX.toIn (by kernel_rfl)) ra_nil)) re_int) (re_op o_mul re_int (re_var hX.toIn (by kernel_rfl)))) re_int) (ra_cons re_int ra_nil)))))))
theorem c__law_box (hh : HH K mg) (B : Bn mg) : Cl P w K mg base 1 "_law_box" ["script", "k"] f__law_box := by
  obtain ⟨a, fd, F, hm⟩ := hh.F__law_box
  exact cl_of (N := N__law_box) F hm (by kernel_rfl) (fun _ _ _ _ _ _ us hl => match us, hl with | [_, _], _ => rfl) (fun _ _ _ _ _ _ us hl => match us, hl with | [_, _], _ => rfl) fun X hX G hr => d__law_box hh B hX G hr
def N__law_take : List Str := ["tin", "below_so", "drawn_so", "once_so", "wide_so", "twice_so"]
def m__law_take : SX :=
  (sSeq (sIf (tBl (eBin (fCmpD gtI gtD) (eBin fIx (evar 0) (cst (.int 0))) (cst (.int 0)))) (sSeq (sPat (.nm 2) (eBin fMod (eCall (f1 gInt) (aCons (eBin fIx (evar 0) (cst (.int 0))) aNil)) (evar 1)))
  (sSeq (sTg (.sub (evar 0) (cst (.int 0))) (eBin fDiv (eBin fIx (evar 0) (cst (.int 0))) (evar 1)))
  (sRet (evar 2)))) sNil)
  (sSeq (sTg (.sub (evar 0) (cst (.int 2))) (eBin fAdd (eBin fIx (evar 0) (cst (.int 2))) (cst (.int 1))))
  (sSeq (sPat (.nm 3) (eBin fMod (eCall (f1 gInt) (aCons (eBin fMul (eBin fAdd (eBin fIx (evar 0) (cst (.int 1))) (eBin fMul (cst (.int 48271)) (eBin fIx (evar 0) (cst (.int 2))))) (eBin fAdd (cst (.int 39373)) (eBin fIx (evar 0) (cst (.int 2))))) aNil)) (cst (.int 2147483647))))
  (sSeq (sPat (.nm 4) (eBin fAdd (eBin fMod (eCall (f1 gInt) (aCons (evar 3) aNil)) (cst (.int 40009))) (cst (.int 7))))
  (sSeq (sPat (.nm 5) (eBin fMod (eCall (f1 gInt) (aCons (eBin fMul (eBin fAdd (eBin fAdd (evar 3) (eBin fIx (evar 0) (cst (.int 2)))) (eBin fDiv (eBin fIx (evar 0) (cst (.int 1))) (cst (.int 1000003)))) (evar 4)) aNil)) (cst (.int 2147483629))))
  (sRet (eBin fMod (eCall (f1 gInt) (aCons (eBin fDiv (eBin fMod (eCall (f1 gInt) (aCons (eBin fAdd (eBin fMul (evar 5) (cst (.int 48271))) (evar 3)) aNil)) (cst (.int 2147483587))) (cst (.int 64))) aNil)) (evar 1))))))))
def f__law_take : FX := mkFn 6 2 m__law_take
theorem ar__law_take : Ar 2 f__law_take := ar_mk
theorem d__law_take (hh : HH K mg) (B : Bn mg) (hX : InF X N__law_take (defScope s__law_take)) (G : Gx X P w K mg base) (hr : Room 0 X.A) : RSs X (defBody s__law_take) m__law_take :=
  (rss_cons (rs_if (rt_cmp (o_gtD hX.toIn) (re_ix (re_var hX.toIn (by kernel_rfl)) re_int) re_int (nomark _)) (rss_cons (rs_set (hX.lo (by kernel_rfl)) (re_op o_mod (re_callTy hX.toIn (x := "int") (T := "int") c_int (by kernel_rfl) (G.no B (x := "int") (by kernel_rfl)) (by rfl) (ra_cons (re_ix (re_var hX.toIn (by kernel_rfl)) re_int) ra_nil)) (re_var hX.toIn (by kernel_rfl))))
  (rss_cons (rs_tg (rt_sub (re_var hX.toIn (by kernel_rfl)) re_int (by intro _; rfl)) (re_op o_div (re_ix (re_var hX.toIn (by kernel_rfl)) re_int) (re_var hX.toIn (by kernel_rfl))))
  (rss_one (rs_ret (re_var hX.toIn (by kernel_rfl)))))) rss_nil)
  (rss_cons (rs_tg (rt_sub (re_var hX.toIn (by kernel_rfl)) re_int (by intro _; rfl)) (re_op o_add (re_ix (re_var hX.toIn (by kernel_rfl)) re_int) re_int))
  (rss_cons (rs_set (hX.lo (by kernel_rfl)) (re_op o_mod (re_callTy hX.toIn (x := "int") (T := "int") c_int (by kernel_rfl) (G.no B (x := "int") (by kernel_rfl)) (by rfl) (ra_cons (re_op o_mul (re_op o_add (re_ix (re_var hX.toIn (by kernel_rfl)) re_int) (re_op o_mul re_int (re_ix (re_var hX.toIn (by kernel_rfl)) re_int))) (re_op o_add re_int (re_ix (re_var hX.toIn (by kernel_rfl)) re_int))) ra_nil)) re_int))
  (rss_cons (rs_set (hX.lo (by kernel_rfl)) (re_op o_add (re_op o_mod (re_callTy hX.toIn (x := "int") (T := "int") c_int (by kernel_rfl) (G.no B (x := "int") (by kernel_rfl)) (by rfl) (ra_cons (re_var hX.toIn (by kernel_rfl)) ra_nil)) re_int) re_int))
  (rss_cons (rs_set (hX.lo (by kernel_rfl)) (re_op o_mod (re_callTy hX.toIn (x := "int") (T := "int") c_int (by kernel_rfl) (G.no B (x := "int") (by kernel_rfl)) (by rfl) (ra_cons (re_op o_mul (re_op o_add (re_op o_add (re_var hX.toIn (by kernel_rfl)) (re_ix (re_var hX.toIn (by kernel_rfl)) re_int)) (re_op o_div (re_ix (re_var hX.toIn (by kernel_rfl)) re_int) re_int)) (re_var hX.toIn (by kernel_rfl))) ra_nil)) re_int))
  (rss_one (rs_ret (re_op o_mod (re_callTy hX.toIn (x := "int") (T := "int") c_int (by kernel_rfl) (G.no B (x := "int") (by kernel_rfl)) (by rfl) (ra_cons (re_op o_div (re_op o_mod (re_callTy hX.toIn (x := "int") (T := "int") c_int (by kernel_rfl) (G.no B (x := "int") (by kernel_rfl)) (by rfl) (ra_cons (re_op o_add (re_op o_mul (re_var hX.toIn (by kernel_rfl)) re_int) (re_var hX.toIn (by kernel_rfl))) ra_nil)) re_int) re_int) ra_nil)) (re_var hX.toIn (by kernel_rfl))))))))))
theorem c__law_take (hh : HH K mg) (B : Bn mg) : Cl P w K mg base 1 "_law_take" ["tin", "below_so"] f__law_take := by
  obtain ⟨a, fd, F, hm⟩ := hh.F__law_take
  exact cl_of (N := N__law_take) F hm (by kernel_rfl) (fun _ _ _ _ _ _ us hl => match us, hl with | [_, _], _ => rfl) (fun _ _ _ _ _ _ us hl => match us, hl with | [_, _], _ => rfl) fun X hX G hr => d__law_take hh B hX G hr
def N__law_cells : List Str := ["script", "most_so", "cells_so", "k", "bit_so", "at_so"]
def m__law_cells : SX :=
  (sSeq (sPat (.nm 2) (eOr (eCall (f1 gList) (aCons (eSl (evar 0) oNone (oSome (evar 1))) aNil)) (eLst (aCons (cst (.int 0)) aNil))))
  (sSeq (sFor (iEnum (eSl (evar 0) (oSome (evar 1)) (oSome (cst (.int 63))))) (.tp [3, 4]) (sSeq (sPat (.nm 5) (eBin fMod (eCall (f1 gInt) (aCons (evar 3) aNil)) (evar 1)))
  (sTg (.sub (evar 2) (evar 5)) (eBin fAdd (eBin fIx (evar 2) (evar 5)) (eBin fMul (evar 4) (eBin fAdd (evar 3) (cst (.int 2))))))))
  (sRet (evar 2))))
def f__law_cells : FX := mkFn 6 2 m__law_cells
theorem ar__law_cells : Ar 2 f__law_cells := ar_mk
theorem d__law_cells (hh : HH K mg) (B : Bn mg) (hX : InF X N__law_cells (defScope s__law_cells)) (G : Gx X P w K mg base) (hr : Room 0 X.A) : RSs X (defBody s__law_cells) m__law_cells :=
  (rss_cons (rs_set (hX.lo (by kernel_rfl)) (re_or (re_callTy hX.toIn (x := "list") (T := "list") c_list (by kernel_rfl) (G.no B (x := "list") (by kernel_rfl)) (by rfl) (ra_cons (re_sl (re_var hX.toIn (by kernel_rfl)) ro_none (ro_some (re_var hX.toIn (by kernel_rfl)))) ra_nil)) (re_one (re_lst (ra_cons re_int ra_nil)))))
  (rss_cons (rs_for hX.toIn (ri_enum hX.toIn (by kernel_rfl) (G.no B (x := "enumerate") (by kernel_rfl)) (re_sl (re_var hX.toIn (by kernel_rfl)) (ro_some (re_var hX.toIn (by kernel_rfl))) (ro_some re_int))) (rg_tup hX.toIn (rgs_cons (hX.lo (by kernel_rfl)) (rgs_cons (hX.lo (by kernel_rfl)) rgs_nil))) (rss_cons (rs_set (hX.lo (by kernel_rfl)) (re_op o_mod (re_callTy hX.toIn (x := "int") (T := "int") c_int (by kernel_rfl) (G.no B (x := "int") (by kernel_rfl)) (by rfl) (ra_cons (re_var hX.toIn (by kernel_rfl)) ra_nil)) (re_var hX.toIn (by kernel_rfl))))
  (rss_one (rs_tg (rt_sub (re_var hX.toIn (by kernel_rfl)) (re_var hX.toIn (by kernel_rfl)) (by intro _; rfl)) (re_op o_add (re_ix (re_var hX.toIn (by kernel_rfl)) (re_var hX.toIn (by kernel_rfl))) (re_op o_mul (re_var hX.toIn (by kernel_rfl)) (re_op o_add (re_var hX.toIn (by kernel_rfl)) re_int)))))))
  (rss_one (rs_ret (re_var hX.toIn (by kernel_rfl))))))
theorem c__law_cells (hh : HH K mg) (B : Bn mg) : Cl P w K mg base 1 "_law_cells" ["script", "most_so"] f__law_cells := by
  obtain ⟨a, fd, F, hm⟩ := hh.F__law_cells
  exact cl_of (N := N__law_cells) F hm (by kernel_rfl) (fun _ _ _ _ _ _ us hl => match us, hl with | [_, _], _ => rfl) (fun _ _ _ _ _ _ us hl => match us, hl with | [_, _], _ => rfl) fun X hX G hr => d__law_cells hh B hX G hr
def N__law_of : List Str := ["tin", "goods_so"]
def m__law_of : SX :=
  (sRet (eBin fIx (evar 1) (eCall (callM f__law_take) (aCons (evar 0) (aCons (eCall (f1 gLen) (aCons (evar 1) aNil)) aNil)))))
def f__law_of : FX := mkFn 2 2 m__law_of
theorem ar__law_of : Ar 2 f__law_of := ar_mk
theorem d__law_of (hh : HH K mg) (B : Bn mg) (hX : InF X N__law_of (defScope s__law_of)) (G : Gx X P w K mg base) (hr : Room 1 X.A) : RSs X (defBody s__law_of) m__law_of :=
  (rss_one (rs_ret (re_ix (re_var hX.toIn (by kernel_rfl)) (re_call hX.toIn G (c__law_take (base := base) (w := w) hh B) ar__law_take hr (by first | decide | omega) (by kernel_rfl) (ra_cons (re_var hX.toIn (by kernel_rfl)) (ra_cons (re_callB hX.toIn (x := "len") (id := "len") c_len (by kernel_rfl) (G.no B (x := "len") (by kernel_rfl)) (by rfl) (ra_cons (re_var hX.toIn (by kernel_rfl)) ra_nil)) ra_nil))))))
theorem c__law_of (hh : HH K mg) (B : Bn mg) : Cl P w K mg base 2 "_law_of" ["tin", "goods_so"] f__law_of := by
  obtain ⟨a, fd, F, hm⟩ := hh.F__law_of
  exact cl_of (N := N__law_of) F hm (by kernel_rfl) (fun _ _ _ _ _ _ us hl => match us, hl with | [_, _], _ => rfl) (fun _ _ _ _ _ _ us hl => match us, hl with | [_, _], _ => rfl) fun X hX G hr => d__law_of hh B hX G hr
def N__law_all_links : List Str := ["pairs_so", "known_so", "many", "found", "k", "one", "two", "inner_so", "own"]
def m__law_all_links : SX :=
  (sSeq (sPat (.nm 1) (eLst (aCons (eLst (aCons (eTup aNil) aNil)) aNil)))
  (sSeq (sFor (iRange (aCons (cst (.int 1)) (aCons (eBin fAdd (evar 0) (cst (.int 1))) aNil))) (.nm 2) (sSeq (sPat (.nm 3) (eLst aNil))
  (sSeq (sFor (iRange (aCons (evar 2) aNil)) (.nm 4) (sFor (iOf (eBin fIx (evar 1) (evar 4))) (.nm 5) (sFor (iOf (eBin fIx (evar 1) (eBin fSub (eBin fSub (evar 2) (cst (.int 1))) (evar 4)))) (.nm 6) (sSeq (sPat (.nm 7) (eComp (iOf (evar 5)) (.nm 8) tYesM (eBin fAdd (evar 8) (cst (.int 1))) [8]))
  (sExpr (eMth mAppend (evar 3) (aCons (eCall (f1 gTuple) (aCons (eBin fAdd (eBin fAdd (eBin fAdd (eLst (aCons (eBin fAdd (eBin fMul (cst (.int 2)) (evar 4)) (cst (.int 1))) aNil)) (evar 7)) (eLst (aCons (cst (.int 0)) aNil))) (eComp (iOf (evar 6)) (.nm 8) tYesM (eBin fAdd (eBin fAdd (evar 8) (eBin fMul (cst (.int 2)) (evar 4))) (cst (.int 2))) [8])) aNil)) aNil)))))))
  (sExpr (eMth mAppend (evar 1) (aCons (evar 3) aNil))))))
  (sRet (eCall (f1 gSorted) (aCons (eBin fIx (evar 1) (evar 0)) aNil)))))
def f__law_all_links : FX := mkFn 9 1 m__law_all_links
theorem ar__law_all_links : Ar 1 f__law_all_links := ar_mk
theorem d__law_all_links (hh : HH K mg) (B : Bn mg) (hX : InF X N__law_all_links (defScope s__law_all_links)) (G : Gx X P w K mg base) (hr : Room 0 X.A) : RSs X (defBody s__law_all_links) m__law_all_links :=
  (rss_cons (rs_set (hX.lo (by kernel_rfl)) (re_lst (ra_cons (re_lst (ra_cons (re_tup ra_nil) ra_nil)) ra_nil)))
  (rss_cons (rs_for hX.toIn (ri_range2 hX.toIn (by kernel_rfl) (G.no B (x := "range") (by kernel_rfl)) re_int (re_op o_add (re_var hX.toIn (by kernel_rfl)) re_int)) (rg_name (hX.lo (by kernel_rfl))) (rss_cons (rs_set (hX.lo (by kernel_rfl)) (re_lst ra_nil))
  (rss_cons (rs_for hX.toIn (ri_range1 hX.toIn (by kernel_rfl) (G.no B (x := "range") (by kernel_rfl)) (re_var hX.toIn (by kernel_rfl))) (rg_name (hX.lo (by kernel_rfl))) (rss_one (rs_for hX.toIn (ri_of (re_ix (re_var hX.toIn (by kernel_rfl)) (re_var hX.toIn (by kernel_rfl)))) (rg_name (hX.lo (by kernel_rfl))) (rss_one (rs_for hX.toIn (ri_of (re_ix (re_var hX.toIn (by kernel_rfl)) (re_op o_sub (re_op o_sub (re_var hX.toIn (by kernel_rfl)) re_int) (re_var hX.toIn (by kernel_rfl))))) (rg_name (hX.lo (by kernel_rfl))) (rss_cons (rs_setComp hX.toIn (by kernel_rfl) (by kernel_rfl) (by intro env he; cases env; cases he; rfl) (own := [("own", 8)]) (p := (.nm 8)) (t := tYesM) (ri_of (re_var hX.toIn (by kernel_rfl))) (by kernel_rfl) (by rfl) (fun _ _ _ _ _ => (rg_name (hX.toIn.loB (by kernel_rfl)))) (fun _ _ _ _ _ => rts_none) (fun _ _ _ _ _ => (re_op o_add (re_var hX.toIn.blk (by kernel_rfl)) re_int)))
  (rss_one (rs_expr (re_append (re_var hX.toIn (by kernel_rfl)) (ra_cons (re_callTy hX.toIn (x := "tuple") (T := "tuple") c_tuple (by kernel_rfl) (G.no B (x := "tuple") (by kernel_rfl)) (by rfl) (ra_cons (re_op o_add (re_op o_add (re_op o_add (re_lst (ra_cons (re_op o_add (re_op o_mul re_int (re_var hX.toIn (by kernel_rfl))) re_int) ra_nil)) (re_var hX.toIn (by kernel_rfl))) (re_lst (ra_cons re_int ra_nil))) (re_comp hX.toIn (own := [("own", 8)]) (p := (.nm 8)) (t := tYesM) (ri_of (re_var hX.toIn (by kernel_rfl))) (by kernel_rfl) (by rfl) (fun _ _ _ _ _ => (rg_name (hX.toIn.loB (by kernel_rfl)))) (fun _ _ _ _ _ => rts_none) (fun _ _ _ _ _ => (re_op o_add (re_op o_add (re_var hX.toIn.blk (by kernel_rfl)) (re_op o_mul re_int (re_var hX.toIn.blk (by kernel_rfl)))) re_int)))) ra_nil)) ra_nil))))))))))
  (rss_one (rs_expr (re_append (re_var hX.toIn (by kernel_rfl)) (ra_cons (re_var hX.toIn (by kernel_rfl)) ra_nil)))))))
  (rss_one (rs_ret (re_callB hX.toIn (x := "sorted") (id := "sorted") (c_sorted hX.toIn) (by kernel_rfl) (G.no B (x := "sorted") (by kernel_rfl)) (by rfl) (ra_cons (re_ix (re_var hX.toIn (by kernel_rfl)) (re_var hX.toIn (by kernel_rfl))) ra_nil))))))
theorem c__law_all_links (hh : HH K mg) (B : Bn mg) : Cl P w K mg base 1 "_law_all_links" ["pairs_so"] f__law_all_links := by
  obtain ⟨a, fd, F, hm⟩ := hh.F__law_all_links
  exact cl_of (N := N__law_all_links) F hm (by kernel_rfl) (fun _ _ _ _ _ _ us hl => match us, hl with | [_], _ => rfl) (fun _ _ _ _ _ _ us hl => match us, hl with | [_], _ => rfl) fun X hX G hr => d__law_all_links hh B hX G hr
def N_law : List Str := ["script", "tin", "lap", "many", "own", "end_so", "steps_so", "next_so", "far", "its", "bits_so", "shorts_so", "nest", "short", "counts_so", "k", "j"]
def m_law : SX :=
  (sSeq (sPat (.nm 1) (eCall (callM f__law_box) (aCons (eCall (callM f__law_cells) (aCons (evar 0) (aCons (cst (.int 1)) aNil))) (aCons (cst (.int 0)) aNil))))
  (sSeq (sFor (iRange (aCons (cst (.int 4)) aNil)) (.nm 2) (sSeq (sPat (.nm 3) (eBin fAdd (cst (.int 1)) (eCall (callM f__law_take) (aCons (evar 1) (aCons (cst (.int 6)) aNil)))))
  (sSeq (sPat (.nm 4) (eCall (callM f__law_of) (aCons (evar 1) (aCons (eCall (callM f__law_all_links) (aCons (evar 3) aNil)) aNil))))
  (sSeq (sPat (.tp [5, 6]) (eTup (aCons (eCall (callM f__law_take) (aCons (evar 1) (aCons (eBin fMul (cst (.int 2)) (evar 3)) aNil))) (aCons (eBin fSub (eCall (callM f__law_take) (aCons (evar 1) (aCons (eBin fAdd (eBin fMul (cst (.int 4)) (evar 3)) (cst (.int 1))) aNil))) (eBin fMul (cst (.int 2)) (evar 3))) aNil))))
  (sSeq (sPat (.nm 7) (eBin fMod (eBin fAdd (evar 5) (cst (.int 1))) (eBin fMul (cst (.int 2)) (evar 3))))
  (sSeq (sPat (.nm 8) (eCall (callM f_link_moved) (aCons (evar 4) (aCons (evar 5) aNil))))
  (sSeq (sIf (tOrM (tBl (eBin (fIs true) (eCall (callM f_is_links) (aCons (evar 8) aNil)) (cst (.bl true)))) (tOrM (tBl (eBin (fEq true) (eBin fIx (evar 8) (evar 5)) (evar 7))) (tOrM (tBl (eBin (fEq true) (eBin fIx (evar 8) (evar 7)) (evar 5))) (tBl (eBin (fEq true) (eBin (fEq false) (evar 8) (evar 4)) (eBin (fEq false) (eBin fIx (evar 4) (evar 5)) (evar 7))))))) (sRet (cst (.bl false))) sNil)
  (sSeq (sFor (iOf (eTup (aCons (evar 4) (aCons (evar 8) (aCons (eCall (callM f_links_turned) (aCons (evar 4) (aCons (evar 6) aNil))) (aCons (eCall (callM f_links_mirrored) (aCons (evar 4) aNil)) aNil)))))) (.nm 9) (sSeq (sPat (.nm 10) (eCall (callM f_link_bits) (aCons (evar 9) aNil)))
  (sIf (tOrM (tBl (eBin (fEq true) (eCall (callM f_links_of_bits) (aCons (evar 10) aNil)) (evar 9))) (tOrM (tBl (eBin (fEq true) (eCall (f1 gSum) (aCons (evar 10) aNil)) (evar 3))) (tBl (eBin (fEq true) (eComp (iRange (aCons (eBin fMul (cst (.int 2)) (evar 3)) aNil)) (.nm 15) (tBl (eBin (fCmpD ltI ltD) (eBin fMul (eCall (f1 gSum) (aCons (eSl (evar 10) oNone (oSome (evar 15))) aNil)) (cst (.int 2))) (evar 15))) (evar 15) [15]) (eLst aNil))))) (sRet (cst (.bl false))) sNil)))
  (sSeq (sIf (tOrM (tBl (eBin (fEq true) (eCall (callM f_links_turned) (aCons (eCall (callM f_links_turned) (aCons (evar 4) (aCons (evar 6) aNil))) (aCons (eBin fSub (cst (.int 0)) (evar 6)) aNil))) (evar 4))) (tOrM (tBl (eBin (fEq true) (eCall (callM f_links_mirrored) (aCons (eCall (callM f_links_mirrored) (aCons (evar 4) aNil)) aNil)) (evar 4))) (tBl (eBin (fEq true) (eCall (callM f_links_turned) (aCons (evar 4) (aCons (eBin fMul (cst (.int 2)) (evar 3)) aNil))) (evar 4))))) (sRet (cst (.bl false))) sNil)
  (sSeq (sIf (tOrM (tBl (eBin (fEq true) (eCall (callM f_link_bits) (aCons (eCall (callM f_links_mirrored) (aCons (evar 4) aNil)) aNil)) (eCall (f1 gTuple) (aCons (eComp (iOf (eUn fRev (eCall (callM f_link_bits) (aCons (evar 4) aNil)))) (.nm 15) tYesM (eBin fSub (cst (.int 1)) (evar 15)) [15]) aNil)))) (tBl (eBin (fEq true) (eCall (callM f_link_moved) (aCons (eCall (callM f_links_turned) (aCons (evar 4) (aCons (cst (.int 1)) aNil))) (aCons (eBin fMod (eBin fAdd (evar 5) (cst (.int 1))) (eBin fMul (cst (.int 2)) (evar 3))) aNil))) (eCall (callM f_links_turned) (aCons (evar 8) (aCons (cst (.int 1)) aNil)))))) (sRet (cst (.bl false))) sNil)
  (sSeq (sIf (tBl (eBin (fCmpD gtI gtD) (evar 3) (cst (.int 1)))) (sSeq (sPat (.nm 11) (eComp (iOf (eCall (callM f_all_links) (aCons (evar 3) aNil))) (.nm 9) (tBl (eBin (fEq false) (eBin fIx (evar 9) (evar 5)) (evar 7))) (evar 9) [9]))
  (sIf (tOrM (tBl (eBin (fEq true) (eCall (f1 gLen) (aCons (evar 11) aNil)) (eCall (callM f_how_many_links) (aCons (eBin fSub (evar 3) (cst (.int 1))) aNil)))) (tBl (eBin (fEq true) (eCall (f1 gSortSet) (aCons (eComp (iOf (eCall (callM f_all_links) (aCons (evar 3) aNil))) (.nm 9) tYesM (eCall (callM f_link_moved) (aCons (evar 9) (aCons (evar 5) aNil))) [9]) aNil)) (evar 11)))) (sRet (cst (.bl false))) sNil)) sNil)
  (sSeq (sIf (tBl (eBin (fEq true) (eCall (f1 gLen) (aCons (eComp (iEnum (eCall (callM f_links_beside) (aCons (evar 4) aNil))) (.tp [15, 9]) (tBl (eBin (fEq false) (evar 9) (evar 4))) (evar 15) [15, 9]) aNil)) (eCall (f1 gLen) (aCons (eComp (iRange (aCons (eBin fMul (cst (.int 2)) (evar 3)) aNil)) (.nm 15) (tBl (eBin (fEq false) (eBin fIx (evar 4) (evar 15)) (eBin fMod (eBin fAdd (evar 15) (cst (.int 1))) (eBin fMul (cst (.int 2)) (evar 3))))) (evar 15) [15]) aNil)))) (sRet (cst (.bl false))) sNil)
  (sSeq (sPar 12 13 (aCons (eCall (callM f_nested_links) (aCons (evar 3) aNil)) (aCons (eCall (callM f_short_links) (aCons (evar 3) aNil)) aNil)))
  (sIf (tOrM (tBl (eBin (fEq true) (eCall (callM f_links_mirrored) (aCons (evar 12) aNil)) (evar 12))) (tOrM (tBl (eBin (fEq true) (eCall (callM f_links_turned) (aCons (evar 13) (aCons (cst (.int 2)) aNil))) (evar 13))) (tOrM (tBl (eBin (fEq true) (eCall (callM f_links_mirrored) (aCons (evar 13) aNil)) (evar 13))) (tBl (eBin (fEq true) (eCall (callM f_links_turned) (aCons (evar 12) (aCons (evar 3) aNil))) (evar 12)))))) (sRet (cst (.bl false))) sNil))))))))))))))
  (sSeq (sPat (.nm 14) (eLst (aCons (cst (.int 1)) aNil)))
  (sSeq (sFor (iRange (aCons (cst (.int 1)) (aCons (cst (.int 12)) aNil))) (.nm 15) (sExpr (eMth mAppend (evar 14) (aCons (eCall (f1 gSum) (aCons (eComp (iRange (aCons (evar 15) aNil)) (.nm 16) tYesM (eBin fMul (eBin fIx (evar 14) (evar 16)) (eBin fIx (evar 14) (eBin fSub (eBin fSub (evar 15) (cst (.int 1))) (evar 16)))) [16]) aNil)) aNil))))
  (sRet (eBin (fEq false) (eComp (iRange (aCons (cst (.int 1)) (aCons (cst (.int 12)) aNil))) (.nm 15) tYesM (eCall (callM f_how_many_links) (aCons (evar 15) aNil)) [15]) (eSl (evar 14) (oSome (cst (.int 1))) oNone)))))))
def f_law : FX := mkFn 17 1 m_law
theorem ar_law : Ar 1 f_law := ar_mk
theorem d_law (hh : HH K mg) (B : Bn mg) (hX : InF X N_law (defScope s_law)) (G : Gx X P w K mg base) (hr : Room 11 X.A) : RSs X (defBody s_law) m_law :=
  (rss_cons (rs_set (hX.lo (by kernel_rfl)) (re_call hX.toIn G (c__law_box (base := base) (w := w) hh B) ar__law_box hr (by first | decide | omega) (by kernel_rfl) (ra_cons (re_call hX.toIn G (c__law_cells (base := base) (w := w) hh B) ar__law_cells hr (by first | decide | omega) (by kernel_rfl) (ra_cons (re_var hX.toIn (by kernel_rfl)) (ra_cons re_int ra_nil))) (ra_cons re_int ra_nil))))
  (rss_cons (rs_for hX.toIn (ri_range1 hX.toIn (by kernel_rfl) (G.no B (x := "range") (by kernel_rfl)) re_int) (rg_name (hX.lo (by kernel_rfl))) (rss_cons (rs_set (hX.lo (by kernel_rfl)) (re_op o_add re_int (re_call hX.toIn G (c__law_take (base := base) (w := w) hh B) ar__law_take hr (by first | decide | omega) (by kernel_rfl) (ra_cons (re_var hX.toIn (by kernel_rfl)) (ra_cons re_int ra_nil)))))
  (rss_cons (rs_set (hX.lo (by kernel_rfl)) (re_call hX.toIn G (c__law_of (base := base) (w := w) hh B) ar__law_of hr (by first | decide | omega) (by kernel_rfl) (ra_cons (re_var hX.toIn (by kernel_rfl)) (ra_cons (re_call hX.toIn G (c__law_all_links (base := base) (w := w) hh B) ar__law_all_links hr (by first | decide | omega) (by kernel_rfl) (ra_cons (re_var hX.toIn (by kernel_rfl)) ra_nil)) ra_nil))))
  (rss_cons (rs_asgS hX.toIn (rg_tup hX.toIn (rgs_cons (hX.lo (by kernel_rfl)) (rgs_cons (hX.lo (by kernel_rfl)) rgs_nil))) (re_tup (ra_cons (re_call hX.toIn G (c__law_take (base := base) (w := w) hh B) ar__law_take hr (by first | decide | omega) (by kernel_rfl) (ra_cons (re_var hX.toIn (by kernel_rfl)) (ra_cons (re_op o_mul re_int (re_var hX.toIn (by kernel_rfl))) ra_nil))) (ra_cons (re_op o_sub (re_call hX.toIn G (c__law_take (base := base) (w := w) hh B) ar__law_take hr (by first | decide | omega) (by kernel_rfl) (ra_cons (re_var hX.toIn (by kernel_rfl)) (ra_cons (re_op o_add (re_op o_mul re_int (re_var hX.toIn (by kernel_rfl))) re_int) ra_nil))) (re_op o_mul re_int (re_var hX.toIn (by kernel_rfl)))) ra_nil))) (by intro env he; cases env; cases he; rfl))
  (rss_cons (rs_set (hX.lo (by kernel_rfl)) (re_op o_mod (re_op o_add (re_var hX.toIn (by kernel_rfl)) re_int) (re_op o_mul re_int (re_var hX.toIn (by kernel_rfl)))))
  (rss_cons (rs_set (hX.lo (by kernel_rfl)) (re_callK hX.toIn G (c_link_moved (base := base) (w := w) hh B) ar_link_moved hr (by first | decide | omega) (by kernel_rfl) (rk_cons (re_var hX.toIn (by kernel_rfl)) (rk_cons (re_var hX.toIn (by kernel_rfl)) rk_nil))))
  (rss_cons (rs_if (PW.pt (rw_or (rt_cmp o_isnot (re_callK hX.toIn G (c_is_links (base := base) (w := w) hh B) ar_is_links hr (by first | decide | omega) (by kernel_rfl) (rk_cons (re_var hX.toIn (by kernel_rfl)) rk_nil)) re_bl (nomark _)) (rw_or (rt_cmp (o_ne hX.toIn) (re_ix (re_var hX.toIn (by kernel_rfl)) (re_var hX.toIn (by kernel_rfl))) (re_var hX.toIn (by kernel_rfl)) (nomark _)) (rw_or (rt_cmp (o_ne hX.toIn) (re_ix (re_var hX.toIn (by kernel_rfl)) (re_var hX.toIn (by kernel_rfl))) (re_var hX.toIn (by kernel_rfl)) (nomark _)) (rw_or1 (rt_cmp (o_ne hX.toIn) (re_cmp (o_eq hX.toIn) (re_var hX.toIn (by kernel_rfl)) (re_var hX.toIn (by kernel_rfl)) (nomark _)) (re_cmp (o_eq hX.toIn) (re_ix (re_var hX.toIn (by kernel_rfl)) (re_var hX.toIn (by kernel_rfl))) (re_var hX.toIn (by kernel_rfl)) (nomark _)) (nomark _))))))) (rss_one (rs_ret re_bl)) rss_nil)
  (rss_cons (rs_for hX.toIn (ri_of (re_tup (ra_cons (re_var hX.toIn (by kernel_rfl)) (ra_cons (re_var hX.toIn (by kernel_rfl)) (ra_cons (re_callK hX.toIn G (c_links_turned (base := base) (w := w) hh B) ar_links_turned hr (by first | decide | omega) (by kernel_rfl) (rk_cons (re_var hX.toIn (by kernel_rfl)) (rk_cons (re_var hX.toIn (by kernel_rfl)) rk_nil))) (ra_cons (re_callK hX.toIn G (c_links_mirrored (base := base) (w := w) hh B) ar_links_mirrored hr (by first | decide | omega) (by kernel_rfl) (rk_cons (re_var hX.toIn (by kernel_rfl)) rk_nil)) ra_nil)))))) (rg_name (hX.lo (by kernel_rfl))) (rss_cons (rs_set (hX.lo (by kernel_rfl)) (re_callK hX.toIn G (c_link_bits (base := base) (w := w) hh B) ar_link_bits hr (by first | decide | omega) (by kernel_rfl) (rk_cons (re_var hX.toIn (by kernel_rfl)) rk_nil)))
  (rss_one (rs_if (PW.pt (rw_or (rt_cmp (o_ne hX.toIn) (re_callK hX.toIn G (c_links_of_bits (base := base) (w := w) hh B) ar_links_of_bits hr (by first | decide | omega) (by kernel_rfl) (rk_cons (re_var hX.toIn (by kernel_rfl)) rk_nil)) (re_var hX.toIn (by kernel_rfl)) (nomark _)) (rw_or (rt_cmp (o_ne hX.toIn) (re_callB hX.toIn (x := "sum") (id := "sum") (c_sum hX.toIn) (by kernel_rfl) (G.no B (x := "sum") (by kernel_rfl)) (by rfl) (ra_cons (re_var hX.toIn (by kernel_rfl)) ra_nil)) (re_var hX.toIn (by kernel_rfl)) (nomark _)) (rw_or1 (rt_cmp (o_ne hX.toIn) (re_comp hX.toIn (own := [("k", 15)]) (p := (.nm 15)) (t := (tBl (eBin (fCmpD ltI ltD) (eBin fMul (eCall (f1 gSum) (aCons (eSl (evar 10) oNone (oSome (evar 15))) aNil)) (cst (.int 2))) (evar 15)))) (ri_range1 hX.toIn (by kernel_rfl) (G.no B (x := "range") (by kernel_rfl)) (re_op o_mul re_int (re_var hX.toIn (by kernel_rfl)))) (by kernel_rfl) (by rfl) (fun _ _ _ _ _ => (rg_name (hX.toIn.loB (by kernel_rfl)))) (fun _ _ _ _ _ => (rts_if (rt_cmp (o_ltD hX.toIn.blk) (re_op o_mul (re_callB hX.toIn.blk (x := "sum") (id := "sum") (c_sum hX.toIn.blk) (by kernel_rfl) (G.blk.no B (x := "sum") (by kernel_rfl)) (by rfl) (ra_cons (re_sl (re_var hX.toIn.blk (by kernel_rfl)) ro_none (ro_some (re_var hX.toIn.blk (by kernel_rfl)))) ra_nil)) re_int) (re_var hX.toIn.blk (by kernel_rfl)) (nomark _)))) (fun _ _ _ _ _ => (re_var hX.toIn.blk (by kernel_rfl)))) (re_lst ra_nil) (nomark _)))))) (rss_one (rs_ret re_bl)) rss_nil))))
  (rss_cons (rs_if (PW.pt (rw_or (rt_cmp (o_ne hX.toIn) (re_call hX.toIn G (c_links_turned (base := base) (w := w) hh B) ar_links_turned hr (by first | decide | omega) (by kernel_rfl) (ra_cons (re_call hX.toIn G (c_links_turned (base := base) (w := w) hh B) ar_links_turned hr (by first | decide | omega) (by kernel_rfl) (ra_cons (re_var hX.toIn (by kernel_rfl)) (ra_cons (re_var hX.toIn (by kernel_rfl)) ra_nil))) (ra_cons (re_op o_sub re_int (re_var hX.toIn (by kernel_rfl))) ra_nil))) (re_var hX.toIn (by kernel_rfl)) (nomark _)) (rw_or (rt_cmp (o_ne hX.toIn) (re_call hX.toIn G (c_links_mirrored (base := base) (w := w) hh B) ar_links_mirrored hr (by first | decide | omega) (by kernel_rfl) (ra_cons (re_call hX.toIn G (c_links_mirrored (base := base) (w := w) hh B) ar_links_mirrored hr (by first | decide | omega) (by kernel_rfl) (ra_cons (re_var hX.toIn (by kernel_rfl)) ra_nil)) ra_nil)) (re_var hX.toIn (by kernel_rfl)) (nomark _)) (rw_or1 (rt_cmp (o_ne hX.toIn) (re_call hX.toIn G (c_links_turned (base := base) (w := w) hh B) ar_links_turned hr (by first | decide | omega) (by kernel_rfl) (ra_cons (re_var hX.toIn (by kernel_rfl)) (ra_cons (re_op o_mul re_int (re_var hX.toIn (by kernel_rfl))) ra_nil))) (re_var hX.toIn (by kernel_rfl)) (nomark _)))))) (rss_one (rs_ret re_bl)) rss_nil)
  (rss_cons (rs_if (PW.pt (rw_or (rt_cmp (o_ne hX.toIn) (re_call hX.toIn G (c_link_bits (base := base) (w := w) hh B) ar_link_bits hr (by first | decide | omega) (by kernel_rfl) (ra_cons (re_call hX.toIn G (c_links_mirrored (base := base) (w := w) hh B) ar_links_mirrored hr (by first | decide | omega) (by kernel_rfl) (ra_cons (re_var hX.toIn (by kernel_rfl)) ra_nil)) ra_nil)) (re_callTy hX.toIn (x := "tuple") (T := "tuple") c_tuple (by kernel_rfl) (G.no B (x := "tuple") (by kernel_rfl)) (by rfl) (ra_cons (re_comp hX.toIn (own := [("k", 15)]) (p := (.nm 15)) (t := tYesM) (ri_of (re_rev (re_call hX.toIn G (c_link_bits (base := base) (w := w) hh B) ar_link_bits hr (by first | decide | omega) (by kernel_rfl) (ra_cons (re_var hX.toIn (by kernel_rfl)) ra_nil)))) (by kernel_rfl) (by rfl) (fun _ _ _ _ _ => (rg_name (hX.toIn.loB (by kernel_rfl)))) (fun _ _ _ _ _ => rts_none) (fun _ _ _ _ _ => (re_op o_sub re_int (re_var hX.toIn.blk (by kernel_rfl))))) ra_nil)) (nomark _)) (rw_or1 (rt_cmp (o_ne hX.toIn) (re_call hX.toIn G (c_link_moved (base := base) (w := w) hh B) ar_link_moved hr (by first | decide | omega) (by kernel_rfl) (ra_cons (re_call hX.toIn G (c_links_turned (base := base) (w := w) hh B) ar_links_turned hr (by first | decide | omega) (by kernel_rfl) (ra_cons (re_var hX.toIn (by kernel_rfl)) (ra_cons re_int ra_nil))) (ra_cons (re_op o_mod (re_op o_add (re_var hX.toIn (by kernel_rfl)) re_int) (re_op o_mul re_int (re_var hX.toIn (by kernel_rfl)))) ra_nil))) (re_call hX.toIn G (c_links_turned (base := base) (w := w) hh B) ar_links_turned hr (by first | decide | omega) (by kernel_rfl) (ra_cons (re_var hX.toIn (by kernel_rfl)) (ra_cons re_int ra_nil))) (nomark _))))) (rss_one (rs_ret re_bl)) rss_nil)
  (rss_cons (rs_if (rt_cmp (o_gtD hX.toIn) (re_var hX.toIn (by kernel_rfl)) re_int (nomark _)) (rss_cons (rs_setComp hX.toIn (by kernel_rfl) (by kernel_rfl) (by intro env he; cases env; cases he; rfl) (own := [("its", 9)]) (p := (.nm 9)) (t := (tBl (eBin (fEq false) (eBin fIx (evar 9) (evar 5)) (evar 7)))) (ri_of (re_callK hX.toIn G (c_all_links (base := base) (w := w) hh B) ar_all_links hr (by first | decide | omega) (by kernel_rfl) (rk_cons (re_var hX.toIn (by kernel_rfl)) rk_nil))) (by kernel_rfl) (by rfl) (fun _ _ _ _ _ => (rg_name (hX.toIn.loB (by kernel_rfl)))) (fun _ _ _ _ _ => (rts_if (rt_cmp (o_eq hX.toIn.blk) (re_ix (re_var hX.toIn.blk (by kernel_rfl)) (re_var hX.toIn.blk (by kernel_rfl))) (re_var hX.toIn.blk (by kernel_rfl)) (nomark _)))) (fun _ _ _ _ _ => (re_var hX.toIn.blk (by kernel_rfl))))
  (rss_one (rs_if (PW.pt (rw_or (rt_cmp (o_ne hX.toIn) (re_callB hX.toIn (x := "len") (id := "len") c_len (by kernel_rfl) (G.no B (x := "len") (by kernel_rfl)) (by rfl) (ra_cons (re_var hX.toIn (by kernel_rfl)) ra_nil)) (re_callK hX.toIn G (c_how_many_links (base := base) (w := w) hh B) ar_how_many_links hr (by first | decide | omega) (by kernel_rfl) (rk_cons (re_op o_sub (re_var hX.toIn (by kernel_rfl)) re_int) rk_nil)) (nomark _)) (rw_or1 (rt_cmp (o_ne hX.toIn) (re_sortSet hX.toIn (by kernel_rfl) (G.no B (x := "sorted") (by kernel_rfl)) (by kernel_rfl) (G.no B (x := "set") (by kernel_rfl)) (re_comp hX.toIn (own := [("its", 9)]) (p := (.nm 9)) (t := tYesM) (ri_of (re_call hX.toIn G (c_all_links (base := base) (w := w) hh B) ar_all_links hr (by first | decide | omega) (by kernel_rfl) (ra_cons (re_var hX.toIn (by kernel_rfl)) ra_nil))) (by kernel_rfl) (by rfl) (fun _ _ _ _ _ => (rg_name (hX.toIn.loB (by kernel_rfl)))) (fun _ _ _ _ _ => rts_none) (fun _ _ _ _ _ => (re_call hX.toIn.blk G.blk (c_link_moved (base := base) (w := w) hh B) ar_link_moved hr (by first | decide | omega) (by kernel_rfl) (ra_cons (re_var hX.toIn.blk (by kernel_rfl)) (ra_cons (re_var hX.toIn.blk (by kernel_rfl)) ra_nil)))))) (re_var hX.toIn (by kernel_rfl)) (nomark _))))) (rss_one (rs_ret re_bl)) rss_nil))) rss_nil)
  (rss_cons (rs_if (rt_cmp (o_ne hX.toIn) (re_callB hX.toIn (x := "len") (id := "len") c_len (by kernel_rfl) (G.no B (x := "len") (by kernel_rfl)) (by rfl) (ra_cons (re_comp hX.toIn (own := [("k", 15), ("its", 9)]) (p := (.tp [15, 9])) (t := (tBl (eBin (fEq false) (evar 9) (evar 4)))) (ri_enum hX.toIn (by kernel_rfl) (G.no B (x := "enumerate") (by kernel_rfl)) (re_callK hX.toIn G (c_links_beside (base := base) (w := w) hh B) ar_links_beside hr (by first | decide | omega) (by kernel_rfl) (rk_cons (re_var hX.toIn (by kernel_rfl)) rk_nil))) (by kernel_rfl) (by rfl) (fun _ _ _ _ _ => (rg_tup hX.toIn.blk (rgs_cons (hX.toIn.loB (by kernel_rfl)) (rgs_cons (hX.toIn.loB (by kernel_rfl)) rgs_nil)))) (fun _ _ _ _ _ => (rts_if (rt_cmp (o_eq hX.toIn.blk) (re_var hX.toIn.blk (by kernel_rfl)) (re_var hX.toIn.blk (by kernel_rfl)) (nomark _)))) (fun _ _ _ _ _ => (re_var hX.toIn.blk (by kernel_rfl)))) ra_nil)) (re_callB hX.toIn (x := "len") (id := "len") c_len (by kernel_rfl) (G.no B (x := "len") (by kernel_rfl)) (by rfl) (ra_cons (re_comp hX.toIn (own := [("k", 15)]) (p := (.nm 15)) (t := (tBl (eBin (fEq false) (eBin fIx (evar 4) (evar 15)) (eBin fMod (eBin fAdd (evar 15) (cst (.int 1))) (eBin fMul (cst (.int 2)) (evar 3)))))) (ri_range1 hX.toIn (by kernel_rfl) (G.no B (x := "range") (by kernel_rfl)) (re_op o_mul re_int (re_var hX.toIn (by kernel_rfl)))) (by kernel_rfl) (by rfl) (fun _ _ _ _ _ => (rg_name (hX.toIn.loB (by kernel_rfl)))) (fun _ _ _ _ _ => (rts_if (rt_cmp (o_eq hX.toIn.blk) (re_ix (re_var hX.toIn.blk (by kernel_rfl)) (re_var hX.toIn.blk (by kernel_rfl))) (re_op o_mod (re_op o_add (re_var hX.toIn.blk (by kernel_rfl)) re_int) (re_op o_mul re_int (re_var hX.toIn.blk (by kernel_rfl)))) (nomark _)))) (fun _ _ _ _ _ => (re_var hX.toIn.blk (by kernel_rfl)))) ra_nil)) (nomark _)) (rss_one (rs_ret re_bl)) rss_nil)
  (rss_cons (rs_par hX.toIn (by kernel_rfl) (by kernel_rfl) (by rfl) (by kernel_rfl) (by kernel_rfl) (ra_cons (re_callK hX.toIn G (c_nested_links (base := base) (w := w) hh B) ar_nested_links hr (by first | decide | omega) (by kernel_rfl) (rk_cons (re_var hX.toIn (by kernel_rfl)) rk_nil)) (ra_cons (re_callK hX.toIn G (c_short_links (base := base) (w := w) hh B) ar_short_links hr (by first | decide | omega) (by kernel_rfl) (rk_cons (re_var hX.toIn (by kernel_rfl)) rk_nil)) ra_nil)) (by intro env he; cases env; cases he; rfl))
  (rss_one (rs_if (PW.pt (rw_or (rt_cmp (o_ne hX.toIn) (re_call hX.toIn G (c_links_mirrored (base := base) (w := w) hh B) ar_links_mirrored hr (by first | decide | omega) (by kernel_rfl) (ra_cons (re_var hX.toIn (by kernel_rfl)) ra_nil)) (re_var hX.toIn (by kernel_rfl)) (nomark _)) (rw_or (rt_cmp (o_ne hX.toIn) (re_call hX.toIn G (c_links_turned (base := base) (w := w) hh B) ar_links_turned hr (by first | decide | omega) (by kernel_rfl) (ra_cons (re_var hX.toIn (by kernel_rfl)) (ra_cons re_int ra_nil))) (re_var hX.toIn (by kernel_rfl)) (nomark _)) (rw_or (rt_cmp (o_ne hX.toIn) (re_call hX.toIn G (c_links_mirrored (base := base) (w := w) hh B) ar_links_mirrored hr (by first | decide | omega) (by kernel_rfl) (ra_cons (re_var hX.toIn (by kernel_rfl)) ra_nil)) (re_var hX.toIn (by kernel_rfl)) (nomark _)) (rw_or1 (rt_cmp (o_ne hX.toIn) (re_call hX.toIn G (c_links_turned (base := base) (w := w) hh B) ar_links_turned hr (by first | decide | omega) (by kernel_rfl) (ra_cons (re_var hX.toIn (by kernel_rfl)) (ra_cons (re_var hX.toIn (by kernel_rfl)) ra_nil))) (re_var hX.toIn (by kernel_rfl)) (nomark _))))))) (rss_one (rs_ret re_bl)) rss_nil)))))))))))))))
  (rss_cons (rs_set (hX.lo (by kernel_rfl)) (re_lst (ra_cons re_int ra_nil)))
  (rss_cons (rs_for hX.toIn (ri_range2 hX.toIn (by kernel_rfl) (G.no B (x := "range") (by kernel_rfl)) re_int re_int) (rg_name (hX.lo (by kernel_rfl))) (rss_one (rs_expr (re_append (re_var hX.toIn (by kernel_rfl)) (ra_cons (re_callB hX.toIn (x := "sum") (id := "sum") (c_sum hX.toIn) (by kernel_rfl) (G.no B (x := "sum") (by kernel_rfl)) (by rfl) (ra_cons (re_comp hX.toIn (own := [("j", 16)]) (p := (.nm 16)) (t := tYesM) (ri_range1 hX.toIn (by kernel_rfl) (G.no B (x := "range") (by kernel_rfl)) (re_var hX.toIn (by kernel_rfl))) (by kernel_rfl) (by rfl) (fun _ _ _ _ _ => (rg_name (hX.toIn.loB (by kernel_rfl)))) (fun _ _ _ _ _ => rts_none) (fun _ _ _ _ _ => (re_op o_mul (re_ix (re_var hX.toIn.blk (by kernel_rfl)) (re_var hX.toIn.blk (by kernel_rfl))) (re_ix (re_var hX.toIn.blk (by kernel_rfl)) (re_op o_sub (re_op o_sub (re_var hX.toIn.blk (by kernel_rfl)) re_int) (re_var hX.toIn.blk (by kernel_rfl))))))) ra_nil)) ra_nil)))))
  (rss_one (rs_ret (re_cmp (o_eq hX.toIn) (re_comp hX.toIn (own := [("k", 15)]) (p := (.nm 15)) (t := tYesM) (ri_range2 hX.toIn (by kernel_rfl) (G.no B (x := "range") (by kernel_rfl)) re_int re_int) (by kernel_rfl) (by rfl) (fun _ _ _ _ _ => (rg_name (hX.toIn.loB (by kernel_rfl)))) (fun _ _ _ _ _ => rts_none) (fun _ _ _ _ _ => (re_call hX.toIn.blk G.blk (c_how_many_links (base := base) (w := w) hh B) ar_how_many_links hr (by first | decide | omega) (by kernel_rfl) (ra_cons (re_var hX.toIn.blk (by kernel_rfl)) ra_nil)))) (re_sl (re_var hX.toIn (by kernel_rfl)) (ro_some re_int) ro_none) (nomark _))))))))
theorem c_law (hh : HH K mg) (B : Bn mg) : Cl P w K mg base 12 "law" ["script"] f_law := by
  obtain ⟨a, fd, F, hm⟩ := hh.F_law
  exact cl_of (N := N_law) F hm (by kernel_rfl) (fun _ _ _ _ _ _ us hl => match us, hl with | [_], _ => rfl) (fun _ _ _ _ _ _ us hl => match us, hl with | [_], _ => rfl) fun X hX G hr => d_law hh B hX G hr
theorem fn_law (hh : HH K mg) (B : Bn mg) {a : Addr} {fd : FuncData} (F : Fun K "law" "law" s_law a fd) : FnOk P w K mg base CX0 12 a fd ["script"] (lP K 1 f_law) := fn_ok (N := N_law) F (scB_ok (by kernel_rfl)) fun X hX G hr => d_law hh B hX G hr
theorem bind_law {a : Addr} {fd : FuncData} (F : Fun K "law" "law" s_law a fd) (s : Shared) (u : Value) : BindsTo s fd ⟨[u], []⟩ [("script", u)] := by
  obtain ⟨oc, od, kV, doc, pm, an, cdv, ct, osl, rfl, lk, hcd⟩ := F.ex
  exact .of_eq rfl
end
end Rx.K70

namespace Rx.K70
open PySem PySem.Spec PyProof.Rows L2 Rx

theorem v_is_number : FN f_is_number (ap1 S.u_is_number) := by
  have h := fn_mk1 (nN := 1) (F := fun (_ : Unit) => [.no]) (FB := noU) fun z0 => ss_A (B := [.val z0]) rfl ((ss_ret (ev_and (ev_isi (n := "int") rfl ((ev_var (i := 0) rfl).b)) (ev_not ((ev_isi (n := "bool") rfl ((ev_var (i := 0) rfl).b)).b)))))
  exact h
theorem v_is_from : FN f_is_from (ap2 S.u_is_from) := by
  have h := fn_mk2 (nN := 2) (F := fun (_ : Unit) => [.no, .no]) (FB := noU) fun z0 z1 => ss_A (B := [.val z0, .val z1]) rfl ((ss_ret (ev_and (ev_call1 v_is_number (ev_var (i := 0) rfl)) (ev_cmp ob_ge ((ev_var (i := 0) rfl).b) ((ev_var (i := 1) rfl).b)))))
  exact h
theorem v_is_below : FN f_is_below (ap2 S.u_is_below) := by
  have h := fn_mk2 (nN := 2) (F := fun (_ : Unit) => [.no, .no]) (FB := noU) fun z0 z1 => ss_A (B := [.val z0, .val z1]) rfl ((ss_ret (ev_and (ev_call2 v_is_from (ev_var (i := 0) rfl) (ev_int (i := 0))) (ev_cmp ob_lt ((ev_var (i := 0) rfl).b) ((ev_var (i := 1) rfl).b)))))
  exact h
theorem v_is_within : FN f_is_within (ap3 S.u_is_within) := by
  have h := fn_mk3 (nN := 3) (F := fun (_ : Unit) => [.no, .no, .no]) (FB := noU) fun z0 z1 z2 => ss_A (B := [.val z0, .val z1, .val z2]) rfl ((ss_ret (ev_and (ev_call2 v_is_from (ev_var (i := 0) rfl) (ev_var (i := 1) rfl)) (ev_cmp ob_le ((ev_var (i := 0) rfl).b) ((ev_var (i := 2) rfl).b)))))
  exact h
theorem v_tupled : ∀ n, FN (f_tupled n) (ap1 (S.u_tupled n))
  | 0 => fn_err1
  | n_ + 1 => by
    have vself := v_tupled n_
    have h := fn_mk1 (nN := 2) (F := fun (_ : Unit) => [.no, .no]) (FB := noU) fun z0 => ss_A (B := [.val z0, .no]) rfl ((ss_ret (ev_if (tv_tru ((ev_isi2 (n := "list") (k := "tuple") ⟨rfl, rfl⟩ ((ev_var (i := 0) rfl).b)).b)) (ev_f1 op_tupleU ((EL.v (el_comp (vs := [1]) (A0 := [.val z0, .no]) (iv_of (ev_var (i := 0) rfl)) rfl rfl (cm_map (p := (.nm 1)) (tp := fun x7 => (some x7)) (fun x7 => (pw_nm (i := 1) (F := fun q6 => [.val z0, .val q6]) (fun _ => rfl) rfl)) fun q6 => (ev_call1 vself (ev_var (i := 1) rfl))))).b)) (ev_var (i := 0) rfl))))
    exact h
theorem v_picks : FN f_picks (ap2 S.u_picks) := by
  have h := fn_mk2 (nN := 4) (F := fun (_ : Unit) => [.no, .no, .no, .no]) (FB := noU) fun z0 z1 => ss_A (B := [.val z0, .val z1, .no, .no]) rfl ((ss_sn (sn_st (F := fun (v2_1 : U) => [.val z0, .val z1, .val v2_1, .no]) (sn_asg (i := 2) (xk_v (ev_int (i := 1)))) (fun _ => rfl)) fun v2_1 =>
  (ss_sn (sn_for (s0 := v2_1) (p := (.nm 3)) (F := fun (s2 : U) => [.val z0, .no, .val s2, .no]) (tp := fun x5 => (some x5)) (F1 := fun (s2 : U) (q4 : U) => [.val z0, .no, .val s2, .val q4]) (iv_rng1 (ev_var (i := 1) rfl)) (.keep (.drop rfl (.keep (.keep (.nil))))) (fun s2 x5 => (pw_nm (i := 3) (F := fun q4 => [.val z0, .no, .val s2, .val q4]) (fun _ => rfl) rfl)) (fun s2 q4 =>
  (sn_to (f := fun (v2_6 : U) => v2_6) (G := fun (g15 : U) => [.val z0, .no, .val g15, .no]) (sn_st (F := fun (v2_6 : U) => [.val z0, .no, .val v2_6, .val q4]) (sn_asg (i := 2) (xk_v (ev_bin op_divU ((ev_bin op_mulU ((ev_var (i := 2) rfl).b) ((ev_bin op_subU ((ev_var (i := 0) rfl).b) ((ev_var (i := 3) rfl).b)).b)).b) ((ev_bin op_addU ((ev_var (i := 3) rfl).b) ((ev_int (i := 1)).b)).b)))) (fun _ => rfl)) (fun v2_6 => (.keep (.keep (.keep (.drop rfl (.nil))))))))) fun s2 =>
  (ss_ret (ev_var (i := 2) rfl)))))
  exact h
theorem v_is_links_of : FN f_is_links_of (ap1 S.u_is_links_of) := by
  have h := fn_mk1 (nN := 5) (F := fun (_ : Unit) => [.no, .no, .no, .no, .no]) (FB := noU) fun z0 => ss_A (B := [.val z0, .no, .no, .no, .no]) rfl ((ss_ifq (tv_or (tv_not (tv_tru ((ev_isi (n := "tuple") rfl ((ev_var (i := 0) rfl).b)).b))) (tv_or (tv_not (tv_chain ob_le ob_le ((ev_int (i := 2)).b) ((ev_f1 op_lenU ((ev_var (i := 0) rfl).b)).b) ((ev_bin op_mulU ((ev_int (i := 2)).b) ((ev_int (i := 18)).b)).b))) (tv_cmp ob_eq ((ev_bin op_modU ((ev_f1 op_lenU ((ev_var (i := 0) rfl).b)).b) ((ev_int (i := 2)).b)).b) ((ev_int (i := 1)).b))))
  (ss_rq (ss_ret (ev_bl (i := false))))
  (ss_nl (ss_ifq (tv_not (tv_tru ((ev_f1 op_allU ((EL.v (el_comp (vs := [1, 2]) (A0 := [.val z0, .no, .no, .no, .no]) (iv_en (ev_var (i := 0) rfl)) rfl rfl (cm_map (p := (.tp [1, 2])) (tp := fun x21 => (un2 x21)) (fun x21 => (pw_tp2 (i := 1) (j := 2) (F := fun q20 => [.val z0, .val q20.1, .val q20.2, .no, .no]) (fun _ => rfl) rfl rfl )) fun q20 => (ev_and (ev_call2 v_is_below (ev_var (i := 2) rfl) (ev_f1 op_lenU ((ev_var (i := 0) rfl).b))) (ev_cmp ob_ne ((ev_var (i := 2) rfl).b) ((ev_var (i := 1) rfl).b)))))).b)).b)))
  (ss_rq (ss_ret (ev_bl (i := false))))
  (ss_nl (ss_ifq (tv_tru ((ev_f1 op_anyU ((EL.v (el_comp (vs := [1, 2]) (A0 := [.val z0, .no, .no, .no, .no]) (iv_en (ev_var (i := 0) rfl)) rfl rfl (cm_map (p := (.tp [1, 2])) (tp := fun x37 => (un2 x37)) (fun x37 => (pw_tp2 (i := 1) (j := 2) (F := fun q36 => [.val z0, .val q36.1, .val q36.2, .no, .no]) (fun _ => rfl) rfl rfl )) fun q36 => (ev_cmp ob_ne ((ev_bin op_ixU ((ev_var (i := 0) rfl).b) ((ev_var (i := 2) rfl).b)).b) ((ev_var (i := 1) rfl).b))))).b)).b))
  (ss_rq (ss_ret (ev_bl (i := false))))
  (ss_nl (ss_ret (ev_not ((ev_f1 op_anyU ((EL.v (el_comp2 (vs := [3, 4]) (p := (.nm 3)) (p1 := (.nm 4)) (A0 := [.val z0, .no, .no, .no, .no]) (tp := fun x51 => (some x51)) (F1 := fun (q50 : U) => [.val z0, .no, .no, .val q50, .no]) (iv_rng1 (ev_f1 op_lenU ((ev_var (i := 0) rfl).b))) rfl rfl (fun x51 => (pw_nm (i := 3) (F := fun q50 => [.val z0, .no, .no, .val q50, .no]) (fun _ => rfl) rfl)) (fun q50 => (iv_rng1 (ev_f1 op_lenU ((ev_var (i := 0) rfl).b)))) (fun _ => rfl) (fun _ => rfl) fun q50 => (cm_map (p := (.nm 4)) (tp := fun x54 => (some x54)) (fun x54 => (pw_nm (i := 4) (F := fun q53 => [.val z0, .no, .no, .val q50, .val q53]) (fun _ => rfl) rfl)) fun q53 => (ev_chain3 ob_lt ob_lt ob_lt ((ev_var (i := 3) rfl).b) ((ev_var (i := 4) rfl).b) ((ev_bin op_ixU ((ev_var (i := 0) rfl).b) ((ev_var (i := 3) rfl).b)).b) ((ev_bin op_ixU ((ev_var (i := 0) rfl).b) ((ev_var (i := 4) rfl).b)).b))))).b)).b))))))))))
  exact h
theorem v_sure_links : FN f_sure_links (ap1 S.u_sure_links) := by
  have h := fn_mk1 (nN := 2) (F := fun (_ : Unit) => [.no, .no]) (FB := noU) fun z0 => ss_A (B := [.val z0, .no]) rfl ((ss_sn (sn_st (F := fun (v1_1 : U) => [.val z0, .val v1_1]) (sn_asg (i := 1) (xk_v (ev_call1 (v_tupled 8) (ev_var (i := 0) rfl)))) (fun _ => rfl)) fun v1_1 =>
  (ss_ifq (tv_not (tv_tru ((ev_call1 v_is_links_of (ev_var (i := 1) rfl)).b)))
  ss_errS
  (ss_nl (ss_ret (ev_var (i := 1) rfl))))))
  exact h
theorem v_signs_of_links : FN f_signs_of_links (ap1 S.u_signs_of_links) := by
  have h := fn_mk1 (nN := 3) (F := fun (_ : Unit) => [.no, .no, .no]) (FB := noU) fun z0 => ss_A (B := [.val z0, .no, .no]) rfl ((ss_ret (ev_f1 op_tupleU ((EL.v (el_comp (vs := [1, 2]) (A0 := [.val z0, .no, .no]) (iv_en (ev_var (i := 0) rfl)) rfl rfl (cm_map (p := (.tp [1, 2])) (tp := fun x4 => (un2 x4)) (fun x4 => (pw_tp2 (i := 1) (j := 2) (F := fun q3 => [.val z0, .val q3.1, .val q3.2]) (fun _ => rfl) rfl rfl )) fun q3 => (ev_f1 op_intU ((ev_cmp ob_gt ((ev_var (i := 2) rfl).b) ((ev_var (i := 1) rfl).b)).b))))).b))))
  exact h
theorem v_links_by : FN f_links_by (ap1 S.u_links_by) := by
  have h := fn_mk1 (nN := 6) (F := fun (_ : Unit) => [.no, .no, .no, .no, .no, .no]) (FB := noU) fun z0 => ss_A (B := [.val z0, .no, .no, .no, .no, .no]) rfl ((ss_sn (sn_st (F := fun (p1 : List U × List U) => [.val z0, .own false p1.1, .own false p1.2, .no, .no, .no]) (sn_par (i := 1) (j := 2) (xk_l (el_bin op_mulL ((EL.v (el_lst1 ev_non)).b) ((ev_f1 op_lenU ((ev_var (i := 0) rfl).b)).b))) (xk_l el_nil)) (fun _ => rfl)) fun p1 =>
  (ss_sn (sn_for (s0 := (p1.1, p1.2)) (p := (.tp [3, 4])) (F := fun (s8 : List U × List U) => [.no, .own false s8.1, .own false s8.2, .no, .no, .no]) (tp := fun x10 => (un2 x10)) (F1 := fun (s8 : List U × List U) (q9 : U × U) => [.no, .own false s8.1, .own false s8.2, .val q9.1, .val q9.2, .no]) (iv_en (ev_var (i := 0) rfl)) (.drop rfl (.keep (.keep (.keep (.keep (.keep (.nil))))))) (fun s8 x10 => (pw_tp2 (i := 3) (j := 4) (F := fun q9 => [.no, .own false s8.1, .own false s8.2, .val q9.1, .val q9.2, .no]) (fun _ => rfl) rfl rfl )) (fun s8 q9 =>
  (sn_to (f := fun (s11 : List U × List U) => (s11.1, s11.2)) (G := fun (g31 : List U × List U) => [.no, .own false g31.1, .own false g31.2, .no, .no, .no]) (sn_if (F := fun (s11 : List U × List U) => [.no, .own false s11.1, .own false s11.2, .no, .no, .no]) (tv_cmp ob_eq ((ev_var (i := 4) rfl).b) ((ev_int (i := 1)).b))
  (sn_to (f := fun (v2_15 : List U) => (s8.1, v2_15)) (G := fun (g16 : List U × List U) => [.no, .own false g16.1, .own false g16.2, .no, .no, .no]) (sn_st (F := fun (v2_15 : List U) => [.no, .own false s8.1, .own false v2_15, .val q9.1, .val q9.2, .no]) (sn_app (i := 2) rfl (ev_var (i := 3) rfl)) (fun _ => rfl)) (fun v2_15 => (.keep (.keep (.keep (.drop rfl (.drop rfl (.keep (.nil)))))))))
  (sn_seq (sn_st (F := fun (v5_17 : (List U) × U) => [.no, .own false s8.1, .own false v5_17.1, .val q9.1, .val q9.2, .val v5_17.2]) (sn_asgE (i := 5) (F := fun (s20 : List U) => [.no, .own false s8.1, .own false s20, .val q9.1, .val q9.2, .no]) (ee_pop (s := s8.2) (F := fun (s19 : List U) => [.no, .own false s8.1, .own false s19, .val q9.1, .val q9.2, .no]) (i := 2) (b := false) (c := fun s => s) (up := fun _ v => v) rfl (fun _ => rfl)) (fun _ => rfl)) (fun _ => rfl)) fun v5_17 =>
  (sn_to (f := fun (v1_25 : List U) => (v1_25, v5_17.1)) (G := fun (g30 : List U × List U) => [.no, .own false g30.1, .own false g30.2, .no, .no, .no]) (sn_tgs2 (F := fun (v1_25 : List U) => [.no, .own false v1_25, .own false v5_17.1, .val q9.1, .val q9.2, .val v5_17.2]) (ev_tup2 (ev_var (i := 3) rfl) (ev_var (i := 5) rfl)) (fun q23 => (sg_sub (i := 1) rfl (ev_var (i := 5) rfl) fun v1_26 => (sg_sub (i := 1) rfl (ev_var (i := 3) rfl) fun v1_28 => (sg_nil rfl)))) tup2_is) (fun v1_25 => (.keep (.keep (.keep (.drop rfl (.drop rfl (.drop rfl (.nil))))))))))) (fun s11 => (.keep (.keep (.keep (.keep (.keep (.keep (.nil))))))))))) fun s8 =>
  (ss_ret (ev_f1 op_tupleU ((eb_own (i := 1) rfl)))))))
  exact h
theorem v_all_bits : FN f_all_bits (ap1 S.u_all_bits) := by
  have h := fn_mk1 (nN := 5) (F := fun (_ : Unit) => [.no, .no, .no, .no, .no]) (FB := noU) fun z0 => ss_A (B := [.val z0, .no, .no, .no, .no]) rfl ((ss_sn (sn_st (F := fun (v1_1 : U) => [.val z0, .val v1_1, .no, .no, .no]) (sn_asg (i := 1) (xk_v (EL.v (el_lst1 (ev_tup ea_nil))))) (fun _ => rfl)) fun v1_1 =>
  (ss_sn (sn_for (s0 := v1_1) (p := (.nm 2)) (F := fun (s5 : U) => [.val z0, .val s5, .no, .no, .no]) (tp := fun x10 => (some x10)) (F1 := fun (s5 : U) (q9 : U) => [.val z0, .val s5, .val q9, .no, .no]) (iv_rng1 (ev_bin op_mulU ((ev_int (i := 2)).b) ((ev_var (i := 0) rfl).b))) (.keep (.keep (.keep (.keep (.keep (.nil)))))) (fun s5 x10 => (pw_nm (i := 2) (F := fun q9 => [.val z0, .val s5, .val q9, .no, .no]) (fun _ => rfl) rfl)) (fun s5 q9 =>
  (sn_to (f := fun (v1_11 : U) => v1_11) (G := fun (g41 : U) => [.val z0, .val g41, .no, .no, .no]) (sn_st (F := fun (v1_11 : U) => [.val z0, .val v1_11, .val q9, .no, .no]) (sn_asg (i := 1) (xk_v (EL.v (el_comp2 (vs := [3, 4]) (p := (.nm 3)) (p1 := (.nm 4)) (A0 := [.val z0, .val s5, .val q9, .no, .no]) (tp := fun x15 => (some x15)) (F1 := fun (q14 : U) => [.val z0, .val s5, .val q9, .val q14, .no]) (iv_of (ev_var (i := 1) rfl)) rfl rfl (fun x15 => (pw_nm (i := 3) (F := fun q14 => [.val z0, .val s5, .val q9, .val q14, .no]) (fun _ => rfl) rfl)) (fun q14 => (iv_of (ev_tup2 (ev_int (i := 0)) (ev_int (i := 1))))) (fun _ => rfl) (fun _ => rfl) fun q14 => (cm_fil (p := (.nm 4)) (tp := fun x21 => (some x21)) (fun x21 => (pw_nm (i := 4) (F := fun q20 => [.val z0, .val s5, .val q9, .val q14, .val q20]) (fun _ => rfl) rfl)) (fun q20 => (tv_and (tv_cmp ob_le ((ev_bin op_addU ((ev_f1 op_sumU ((ev_var (i := 3) rfl).b)).b) ((ev_var (i := 4) rfl).b)).b) ((ev_var (i := 0) rfl).b)) (tv_cmp ob_ge ((ev_bin op_mulU ((ev_int (i := 2)).b) ((ev_bin op_addU ((ev_f1 op_sumU ((ev_var (i := 3) rfl).b)).b) ((ev_var (i := 4) rfl).b)).b)).b) ((ev_bin op_addU ((ev_f1 op_lenU ((ev_var (i := 3) rfl).b)).b) ((ev_int (i := 1)).b)).b)))) fun q20 => (ev_bin op_addU ((ev_var (i := 3) rfl).b) ((ev_tup1 (ev_var (i := 4) rfl)).b))))))) (fun _ => rfl)) (fun v1_11 => (.keep (.keep (.drop rfl (.keep (.keep (.nil)))))))))) fun s5 =>
  (ss_ret (ev_var (i := 1) rfl)))))
  exact h
theorem v_all_links_in : FN f_all_links_in (ap1 S.u_all_links_in) := by
  have h := fn_mk1 (nN := 2) (F := fun (_ : Unit) => [.no, .no]) (FB := noU) fun z0 => ss_A (B := [.val z0, .no]) rfl ((ss_ret (EL.v (el_f1 op_sortedL ((EL.v (el_comp (vs := [1]) (A0 := [.val z0, .no]) (iv_of (ev_call1 v_all_bits (ev_var (i := 0) rfl))) rfl rfl (cm_map (p := (.nm 1)) (tp := fun x6 => (some x6)) (fun x6 => (pw_nm (i := 1) (F := fun q5 => [.val z0, .val q5]) (fun _ => rfl) rfl)) fun q5 => (ev_call1 v_links_by (ev_var (i := 1) rfl))))).b)))))
  exact h
theorem v_turned_in : FN f_turned_in (ap2 S.u_turned_in) := by
  have h := fn_mk2 (nN := 4) (F := fun (_ : Unit) => [.no, .no, .no, .no]) (FB := noU) fun z0 z1 => ss_A (B := [.val z0, .val z1, .no, .no]) rfl ((ss_sn (sn_st (F := fun (v2_1 : U) => [.val z0, .val z1, .val v2_1, .no]) (sn_asg (i := 2) (xk_v (ev_f1 op_lenU ((ev_var (i := 0) rfl).b)))) (fun _ => rfl)) fun v2_1 =>
  (ss_ret (ev_f1 op_tupleU ((EL.v (el_comp (vs := [3]) (A0 := [.val z0, .val z1, .val v2_1, .no]) (iv_rng1 (ev_var (i := 2) rfl)) rfl rfl (cm_map (p := (.nm 3)) (tp := fun x6 => (some x6)) (fun x6 => (pw_nm (i := 3) (F := fun q5 => [.val z0, .val z1, .val v2_1, .val q5]) (fun _ => rfl) rfl)) fun q5 => (ev_bin op_modU ((ev_bin op_addU ((ev_bin op_ixU ((ev_var (i := 0) rfl).b) ((ev_bin op_modU ((ev_bin op_subU ((ev_var (i := 3) rfl).b) ((ev_var (i := 1) rfl).b)).b) ((ev_var (i := 2) rfl).b)).b)).b) ((ev_var (i := 1) rfl).b)).b) ((ev_var (i := 2) rfl).b))))).b)))))
  exact h
theorem v_sure_pairs : FN f_sure_pairs (ap2 S.u_sure_many) := by
  have h := fn_mk2 (nN := 2) (F := fun (_ : Unit) => [.no, .no]) (FB := noU) fun z0 z1 => ss_A (B := [.val z0, .val z1]) rfl ((ss_ifq (tv_not (tv_tru ((ev_call3 v_is_within (ev_var (i := 0) rfl) (ev_int (i := 1)) (ev_var (i := 1) rfl)).b)))
  ss_errS
  (ss_nl (ss_ret (ev_var (i := 0) rfl)))))
  exact h
theorem v_is_links : FN f_is_links (ap1 S.u_is_links) := by
  have h := fn_mk1 (nN := 1) (F := fun (_ : Unit) => [.no]) (FB := noU) fun z0 => ss_A (B := [.val z0]) rfl ((ss_ret (ev_call1 v_is_links_of (ev_var (i := 0) rfl))))
  exact h
theorem v_all_links : FN f_all_links (ap1 S.u_all_links) := by
  have h := fn_mk1 (nN := 1) (F := fun (_ : Unit) => [.no]) (FB := noU) fun z0 => ss_A (B := [.val z0]) rfl ((ss_ifq (tv_cmp ob_gt ((ev_call2 v_sure_pairs (ev_var (i := 0) rfl) (ev_int (i := 18))).b) ((ev_int (i := 8)).b))
  ss_errS
  (ss_nl (ss_ret (ev_call1 v_all_links_in (ev_var (i := 0) rfl))))))
  exact h
theorem v_how_many_links : FN f_how_many_links (ap1 S.u_how_many_links) := by
  have h := fn_mk1 (nN := 2) (F := fun (_ : Unit) => [.no, .no]) (FB := noU) fun z0 => ss_A (B := [.val z0, .no]) rfl ((ss_sn (sn_st (F := fun (v1_1 : U) => [.val z0, .val v1_1]) (sn_asg (i := 1) (xk_v (ev_call2 v_sure_pairs (ev_var (i := 0) rfl) (ev_int (i := 60))))) (fun _ => rfl)) fun v1_1 =>
  (ss_ret (ev_bin op_divU ((ev_call2 v_picks (ev_bin op_mulU ((ev_int (i := 2)).b) ((ev_var (i := 1) rfl).b)) (ev_var (i := 1) rfl)).b) ((ev_bin op_addU ((ev_var (i := 1) rfl).b) ((ev_int (i := 1)).b)).b)))))
  exact h
theorem v_link_bits : FN f_link_bits (ap1 S.u_link_bits) := by
  have h := fn_mk1 (nN := 1) (F := fun (_ : Unit) => [.no]) (FB := noU) fun z0 => ss_A (B := [.val z0]) rfl ((ss_ret (ev_call1 v_signs_of_links (ev_call1 v_sure_links (ev_var (i := 0) rfl)))))
  exact h
theorem v_links_of_bits : FN f_links_of_bits (ap1 S.u_links_of_bits) := by
  have h := fn_mk1 (nN := 5) (F := fun (_ : Unit) => [.no, .no, .no, .no, .no]) (FB := noU) fun z0 => ss_A (B := [.val z0, .no, .no, .no, .no]) rfl ((ss_sn (sn_st (F := fun (v1_1 : U) => [.val z0, .val v1_1, .no, .no, .no]) (sn_asg (i := 1) (xk_v (ev_call1 (v_tupled 8) (ev_var (i := 0) rfl)))) (fun _ => rfl)) fun v1_1 =>
  (ss_ifq (tv_or (tv_not (tv_tru ((ev_isi (n := "tuple") rfl ((ev_var (i := 1) rfl).b)).b))) (tv_or (tv_not (tv_chain ob_le ob_le ((ev_int (i := 2)).b) ((ev_f1 op_lenU ((ev_var (i := 1) rfl).b)).b) ((ev_bin op_mulU ((ev_int (i := 2)).b) ((ev_int (i := 18)).b)).b))) (tv_not (tv_tru ((ev_f1 op_allU ((EL.v (el_comp (vs := [4]) (A0 := [.val z0, .val v1_1, .no, .no, .no]) (iv_of (ev_var (i := 1) rfl)) rfl rfl (cm_map (p := (.nm 4)) (tp := fun x15 => (some x15)) (fun x15 => (pw_nm (i := 4) (F := fun q14 => [.val z0, .val v1_1, .no, .no, .val q14]) (fun _ => rfl) rfl)) fun q14 => (ev_call2 v_is_below (ev_var (i := 4) rfl) (ev_int (i := 2)))))).b)).b)))))
  ss_errS
  (ss_nl (ss_sn (sn_st (F := fun (v2_24 : U) => [.val z0, .val v1_1, .val v2_24, .no, .no]) (sn_asg (i := 2) (xk_v (EL.v (el_comp (vs := [3]) (A0 := [.val z0, .val v1_1, .no, .no, .no]) (iv_rng1 (ev_bin op_addU ((ev_f1 op_lenU ((ev_var (i := 1) rfl).b)).b) ((ev_int (i := 1)).b))) rfl rfl (cm_map (p := (.nm 3)) (tp := fun x31 => (some x31)) (fun x31 => (pw_nm (i := 3) (F := fun q30 => [.val z0, .val v1_1, .no, .val q30, .no]) (fun _ => rfl) rfl)) fun q30 => (ev_bin op_subU ((ev_bin op_mulU ((ev_int (i := 2)).b) ((ev_f1 op_sumU ((ev_sl ((ev_var (i := 1) rfl).b) ov_none (ov_some (ev_var (i := 3) rfl))).b)).b)).b) ((ev_var (i := 3) rfl).b))))))) (fun _ => rfl)) fun v2_24 =>
  (ss_ifq (tv_or (tv_cmp ob_lt ((ev_min1 ((ev_var (i := 2) rfl).b)).b) ((ev_int (i := 0)).b)) (tv_cmp ob_ne ((ev_bin op_ixU ((ev_var (i := 2) rfl).b) ((ev_un op_negU ((ev_int (i := 1)).b)).b)).b) ((ev_int (i := 0)).b)))
  ss_errS
  (ss_nl (ss_ret (ev_call1 v_links_by (ev_var (i := 1) rfl))))))))))
  exact h
theorem v_links_turned : FN f_links_turned (ap2 S.u_links_turned) := by
  have h := fn_mk2 (nN := 3) (F := fun (_ : Unit) => [.no, .no, .no]) (FB := noU) fun z0 z1 => ss_A (B := [.val z0, .val z1, .no]) rfl ((ss_sn (sn_st (F := fun (v2_1 : U) => [.val z0, .val z1, .val v2_1]) (sn_asg (i := 2) (xk_v (ev_call1 v_sure_links (ev_var (i := 0) rfl)))) (fun _ => rfl)) fun v2_1 =>
  (ss_ifq (tv_or (tv_not (tv_tru ((ev_call2 v_is_from (ev_var (i := 1) rfl) (ev_un op_negU ((ev_int (i := 1000)).b))).b))) (tv_cmp ob_gt ((ev_var (i := 1) rfl).b) ((ev_int (i := 1000)).b)))
  ss_errS
  (ss_nl (ss_ret (ev_call2 v_turned_in (ev_var (i := 2) rfl) (ev_var (i := 1) rfl)))))))
  exact h
theorem v_links_mirrored : FN f_links_mirrored (ap1 S.u_links_mirrored) := by
  have h := fn_mk1 (nN := 3) (F := fun (_ : Unit) => [.no, .no, .no]) (FB := noU) fun z0 => ss_A (B := [.val z0, .no, .no]) rfl ((ss_sn (sn_st (F := fun (v1_1 : U) => [.val z0, .val v1_1, .no]) (sn_asg (i := 1) (xk_v (ev_call1 v_sure_links (ev_var (i := 0) rfl)))) (fun _ => rfl)) fun v1_1 =>
  (ss_ret (ev_f1 op_tupleU ((EL.v (el_comp (vs := [2]) (A0 := [.val z0, .val v1_1, .no]) (iv_of (ev_un op_revU ((ev_var (i := 1) rfl).b))) rfl rfl (cm_map (p := (.nm 2)) (tp := fun x6 => (some x6)) (fun x6 => (pw_nm (i := 2) (F := fun q5 => [.val z0, .val v1_1, .val q5]) (fun _ => rfl) rfl)) fun q5 => (ev_bin op_subU ((ev_bin op_subU ((ev_f1 op_lenU ((ev_var (i := 1) rfl).b)).b) ((ev_int (i := 1)).b)).b) ((ev_var (i := 2) rfl).b))))).b)))))
  exact h
theorem v_nested_links : FN f_nested_links (ap1 S.u_nested_links) := by
  have h := fn_mk1 (nN := 2) (F := fun (_ : Unit) => [.no, .no]) (FB := noU) fun z0 => ss_A (B := [.val z0, .no]) rfl ((ss_sn (sn_st (F := fun (v1_1 : U) => [.val z0, .val v1_1]) (sn_asg (i := 1) (xk_v (ev_call2 v_sure_pairs (ev_var (i := 0) rfl) (ev_int (i := 18))))) (fun _ => rfl)) fun v1_1 =>
  (ss_ret (ev_tupRg3 (ev_bin op_subU ((ev_bin op_mulU ((ev_int (i := 2)).b) ((ev_var (i := 1) rfl).b)).b) ((ev_int (i := 1)).b)) (ev_un op_negU ((ev_int (i := 1)).b)) (ev_un op_negU ((ev_int (i := 1)).b))))))
  exact h
theorem v_short_links : FN f_short_links (ap1 S.u_short_links) := by
  have h := fn_mk1 (nN := 3) (F := fun (_ : Unit) => [.no, .no, .no]) (FB := noU) fun z0 => ss_A (B := [.val z0, .no, .no]) rfl ((ss_sn (sn_st (F := fun (v1_1 : U) => [.val z0, .val v1_1, .no]) (sn_asg (i := 1) (xk_v (ev_call2 v_sure_pairs (ev_var (i := 0) rfl) (ev_int (i := 18))))) (fun _ => rfl)) fun v1_1 =>
  (ss_ret (ev_f1 op_tupleU ((EL.v (el_comp (vs := [2]) (A0 := [.val z0, .val v1_1, .no]) (iv_rng1 (ev_bin op_mulU ((ev_int (i := 2)).b) ((ev_var (i := 1) rfl).b))) rfl rfl (cm_map (p := (.nm 2)) (tp := fun x10 => (some x10)) (fun x10 => (pw_nm (i := 2) (F := fun q9 => [.val z0, .val v1_1, .val q9]) (fun _ => rfl) rfl)) fun q9 => (ev_bin op_subU ((ev_bin op_addU ((ev_var (i := 2) rfl).b) ((ev_int (i := 1)).b)).b) ((ev_bin op_mulU ((ev_int (i := 2)).b) ((ev_bin op_modU ((ev_var (i := 2) rfl).b) ((ev_int (i := 2)).b)).b)).b))))).b)))))
  exact h
theorem v_moved_in : FN f_moved_in (ap2 S.u_moved_in) := by
  have h := fn_mk2 (nN := 6) (F := fun (_ : Unit) => [.no, .no, .no, .no, .no, .no]) (FB := noU) fun z0 z1 => ss_A (B := [.val z0, .val z1, .no, .no, .no, .no]) rfl ((ss_sn (sn_st (F := fun (p1 : U × List U) => [.val z0, .val z1, .val p1.1, .own false p1.2, .no, .no]) (sn_par (i := 2) (j := 3) (xk_v (ev_bin op_modU ((ev_bin op_addU ((ev_var (i := 1) rfl).b) ((ev_int (i := 1)).b)).b) ((ev_f1 op_lenU ((ev_var (i := 0) rfl).b)).b))) (xk_l (el_f1 op_listL ((ev_var (i := 0) rfl).b)))) (fun _ => rfl)) fun p1 =>
  (ss_ifq (tv_cmp ob_eq ((ev_bin op_ixU ((ev_var (i := 0) rfl).b) ((ev_var (i := 1) rfl).b)).b) ((ev_var (i := 2) rfl).b))
  (ss_rq (ss_ret (ev_var (i := 0) rfl)))
  (ss_nl (ss_sn (sn_st (F := fun (p14 : U × U) => [.val z0, .val z1, .val p1.1, .own false p1.2, .val p14.1, .val p14.2]) (sn_par (i := 4) (j := 5) (xk_v (ev_bin op_ixU ((ev_var (i := 0) rfl).b) ((ev_var (i := 1) rfl).b))) (xk_v (ev_bin op_ixU ((ev_var (i := 0) rfl).b) ((ev_var (i := 2) rfl).b)))) (fun _ => rfl)) fun p14 =>
  (ss_sn (sn_tgs4 (F := fun (v3_27 : List U) => [.val z0, .val z1, .val p1.1, .own false v3_27, .val p14.1, .val p14.2]) (ev_tup4 (ev_var (i := 5) rfl) (ev_var (i := 4) rfl) (ev_var (i := 2) rfl) (ev_var (i := 1) rfl)) (fun q25 => (sg_sub (i := 3) rfl (ev_var (i := 4) rfl) fun v3_28 => (sg_sub (i := 3) rfl (ev_var (i := 5) rfl) fun v3_30 => (sg_sub (i := 3) rfl (ev_var (i := 1) rfl) fun v3_32 => (sg_sub (i := 3) rfl (ev_var (i := 2) rfl) fun v3_34 => (sg_nil rfl)))))) tup4_is) fun v3_27 =>
  (ss_ret (ev_f1 op_tupleU ((eb_own (i := 3) rfl))))))))))
  exact h
theorem v_link_moved : FN f_link_moved (ap2 S.u_link_moved) := by
  have h := fn_mk2 (nN := 3) (F := fun (_ : Unit) => [.no, .no, .no]) (FB := noU) fun z0 z1 => ss_A (B := [.val z0, .val z1, .no]) rfl ((ss_sn (sn_st (F := fun (v2_1 : U) => [.val z0, .val z1, .val v2_1]) (sn_asg (i := 2) (xk_v (ev_call1 v_sure_links (ev_var (i := 0) rfl)))) (fun _ => rfl)) fun v2_1 =>
  (ss_ifq (tv_not (tv_tru ((ev_call2 v_is_below (ev_var (i := 1) rfl) (ev_f1 op_lenU ((ev_var (i := 2) rfl).b))).b)))
  ss_errS
  (ss_nl (ss_ret (ev_call2 v_moved_in (ev_var (i := 2) rfl) (ev_var (i := 1) rfl)))))))
  exact h
theorem v_links_beside : FN f_links_beside (ap1 S.u_links_beside) := by
  have h := fn_mk1 (nN := 3) (F := fun (_ : Unit) => [.no, .no, .no]) (FB := noU) fun z0 => ss_A (B := [.val z0, .no, .no]) rfl ((ss_sn (sn_st (F := fun (v1_1 : U) => [.val z0, .val v1_1, .no]) (sn_asg (i := 1) (xk_v (ev_call1 v_sure_links (ev_var (i := 0) rfl)))) (fun _ => rfl)) fun v1_1 =>
  (ss_ret (EL.v (el_comp (vs := [2]) (A0 := [.val z0, .val v1_1, .no]) (iv_rng1 (ev_f1 op_lenU ((ev_var (i := 1) rfl).b))) rfl rfl (cm_map (p := (.nm 2)) (tp := fun x7 => (some x7)) (fun x7 => (pw_nm (i := 2) (F := fun q6 => [.val z0, .val v1_1, .val q6]) (fun _ => rfl) rfl)) fun q6 => (ev_call2 v_moved_in (ev_var (i := 1) rfl) (ev_var (i := 2) rfl))))))))
  exact h
theorem w__law_box : FL f__law_box (al2 S.ul__law_box_k70) := by
  have h := fl_mk2 (nN := 3) fun z0 z1 => sl_A (B := [.val z0, .val z1, .no]) rfl ((sl_sn (sn_st (F := fun (v2_1 : U) => [.val z0, .val z1, .val v2_1]) (sn_asg (i := 2) (xk_v (ev_if (tv_cmp ob_lt ((ev_var (i := 1) rfl).b) ((ev_f1 op_lenU ((ev_var (i := 0) rfl).b)).b)) (ev_bin op_ixU ((ev_var (i := 0) rfl).b) ((ev_var (i := 1) rfl).b)) (ev_int (i := 0))))) (fun _ => rfl)) fun v2_1 => (sl_ret (el_lst (ea_cons (ev_bin op_mulU ((ev_f1 op_absU ((ev_var (i := 2) rfl).b)).b) ((ev_f1 op_intU ((ev_cmp ob_ge ((ev_f1 op_absU ((ev_var (i := 2) rfl).b)).b) ((ev_bin op_powU ((ev_int (i := 10)).b) ((ev_int (i := 18)).b)).b)).b)).b)) (ea_cons (ev_bin op_addU ((ev_bin op_addU ((ev_bin op_modU ((ev_f1 op_intU ((ev_var (i := 2) rfl).b)).b) ((ev_int (i := 2305843009213693951)).b)).b) ((ev_bin op_mulU ((ev_int (i := 39373)).b) ((ev_var (i := 1) rfl).b)).b)).b) ((ev_int (i := 9172070)).b)) (ea_cons (ev_int (i := 0)) ea_nil)))))))
  exact h
theorem v__law_box : FN f__law_box (ap2 S.u__law_box_k70) := by
  have h := fn_mk2 (nN := 3) (F := fun (_ : Unit) => [.no, .no, .no]) (FB := noU) fun z0 z1 => ss_A (B := [.val z0, .val z1, .no]) rfl ((ss_sn (sn_st (F := fun (v2_1 : U) => [.val z0, .val z1, .val v2_1]) (sn_asg (i := 2) (xk_v (ev_if (tv_cmp ob_lt ((ev_var (i := 1) rfl).b) ((ev_f1 op_lenU ((ev_var (i := 0) rfl).b)).b)) (ev_bin op_ixU ((ev_var (i := 0) rfl).b) ((ev_var (i := 1) rfl).b)) (ev_int (i := 0))))) (fun _ => rfl)) fun v2_1 =>
  (ss_ret (EL.v (el_lst (ea_cons (ev_bin op_mulU ((ev_f1 op_absU ((ev_var (i := 2) rfl).b)).b) ((ev_f1 op_intU ((ev_cmp ob_ge ((ev_f1 op_absU ((ev_var (i := 2) rfl).b)).b) ((ev_bin op_powU ((ev_int (i := 10)).b) ((ev_int (i := 18)).b)).b)).b)).b)) (ea_cons (ev_bin op_addU ((ev_bin op_addU ((ev_bin op_modU ((ev_f1 op_intU ((ev_var (i := 2) rfl).b)).b) ((ev_int (i := 2305843009213693951)).b)).b) ((ev_bin op_mulU ((ev_int (i := 39373)).b) ((ev_var (i := 1) rfl).b)).b)).b) ((ev_int (i := 9172070)).b)) (ea_cons (ev_int (i := 0)) ea_nil))))))))
  exact h
theorem v__law_take : FR f__law_take (bp1 S.u__law_take) := by
  have h := fr_mk1 (nN := 6) (G := fun (_ : Unit) => [.no, .no, .no, .no, .no, .no]) (FB := noU) fun z0 z1 => ss_A (B := [.own true z0, .val z1, .no, .no, .no, .no]) rfl ((ss_ifq (tv_cmp ob_gt ((ev_bin op_ixU ((eb_own (i := 0) rfl)) ((ev_int (i := 0)).b)).b) ((ev_int (i := 0)).b))
  (ss_ass (ss_sn (sn_st (F := fun (v2_6 : U) => [.own true z0, .val z1, .val v2_6, .no, .no, .no]) (sn_asg (i := 2) (xk_v (ev_bin op_modU ((ev_f1 op_intU ((ev_bin op_ixU ((eb_own (i := 0) rfl)) ((ev_int (i := 0)).b)).b)).b) ((ev_var (i := 1) rfl).b)))) (fun _ => rfl)) fun v2_6 =>
  (ss_ass (ss_sn (sn_st (F := fun (v0_15 : List U) => [.own true v0_15, .val z1, .val v2_6, .no, .no, .no]) (sn_set (i := 0) rfl (ev_int (i := 0)) (ev_bin op_divU ((ev_bin op_ixU ((eb_own (i := 0) rfl)) ((ev_int (i := 0)).b)).b) ((ev_var (i := 1) rfl).b))) (fun _ => rfl)) fun v0_15 =>
  (ss_rq (ss_retR (i := 0) rfl (ev_var (i := 2) rfl)))))))
  (ss_nl (ss_sn (sn_st (F := fun (v0_23 : List U) => [.own true v0_23, .val z1, .no, .no, .no, .no]) (sn_set (i := 0) rfl (ev_int (i := 2)) (ev_bin op_addU ((ev_bin op_ixU ((eb_own (i := 0) rfl)) ((ev_int (i := 2)).b)).b) ((ev_int (i := 1)).b))) (fun _ => rfl)) fun v0_23 =>
  (ss_sn (sn_st (F := fun (v3_26 : U) => [.own true v0_23, .val z1, .no, .val v3_26, .no, .no]) (sn_asg (i := 3) (xk_v (ev_bin op_modU ((ev_f1 op_intU ((ev_bin op_mulU ((ev_bin op_addU ((ev_bin op_ixU ((eb_own (i := 0) rfl)) ((ev_int (i := 1)).b)).b) ((ev_bin op_mulU ((ev_int (i := 48271)).b) ((ev_bin op_ixU ((eb_own (i := 0) rfl)) ((ev_int (i := 2)).b)).b)).b)).b) ((ev_bin op_addU ((ev_int (i := 39373)).b) ((ev_bin op_ixU ((eb_own (i := 0) rfl)) ((ev_int (i := 2)).b)).b)).b)).b)).b) ((ev_int (i := 2147483647)).b)))) (fun _ => rfl)) fun v3_26 =>
  (ss_sn (sn_st (F := fun (v4_43 : U) => [.own true v0_23, .val z1, .no, .val v3_26, .val v4_43, .no]) (sn_asg (i := 4) (xk_v (ev_bin op_addU ((ev_bin op_modU ((ev_f1 op_intU ((ev_var (i := 3) rfl).b)).b) ((ev_int (i := 40009)).b)).b) ((ev_int (i := 7)).b)))) (fun _ => rfl)) fun v4_43 =>
  (ss_sn (sn_st (F := fun (v5_48 : U) => [.own true v0_23, .val z1, .no, .val v3_26, .val v4_43, .val v5_48]) (sn_asg (i := 5) (xk_v (ev_bin op_modU ((ev_f1 op_intU ((ev_bin op_mulU ((ev_bin op_addU ((ev_bin op_addU ((ev_var (i := 3) rfl).b) ((ev_bin op_ixU ((eb_own (i := 0) rfl)) ((ev_int (i := 2)).b)).b)).b) ((ev_bin op_divU ((ev_bin op_ixU ((eb_own (i := 0) rfl)) ((ev_int (i := 1)).b)).b) ((ev_int (i := 1000003)).b)).b)).b) ((ev_var (i := 4) rfl).b)).b)).b) ((ev_int (i := 2147483629)).b)))) (fun _ => rfl)) fun v5_48 =>
  (ss_retR (i := 0) rfl (ev_bin op_modU ((ev_f1 op_intU ((ev_bin op_divU ((ev_bin op_modU ((ev_f1 op_intU ((ev_bin op_addU ((ev_bin op_mulU ((ev_var (i := 5) rfl).b) ((ev_int (i := 48271)).b)).b) ((ev_var (i := 3) rfl).b)).b)).b) ((ev_int (i := 2147483587)).b)).b) ((ev_int (i := 64)).b)).b)).b) ((ev_var (i := 1) rfl).b))))))))))
  exact h
theorem v__law_cells : FN f__law_cells (ap2 S.u__law_cells) := by
  have h := fn_mk2 (nN := 6) (F := fun (_ : Unit) => [.no, .no, .no, .no, .no, .no]) (FB := noU) fun z0 z1 => ss_A (B := [.val z0, .val z1, .no, .no, .no, .no]) rfl ((ss_sn (sn_st (F := fun (v2_1 : List U) => [.val z0, .val z1, .own false v2_1, .no, .no, .no]) (sn_asg (i := 2) (xk_l (el_or (el_f1 op_listL ((ev_sl ((ev_var (i := 0) rfl).b) ov_none (ov_some (ev_var (i := 1) rfl))).b)) (el_lst1 (ev_int (i := 0)))))) (fun _ => rfl)) fun v2_1 =>
  (ss_sn (sn_for (s0 := v2_1) (p := (.tp [3, 4])) (F := fun (s8 : List U) => [.no, .val z1, .own false s8, .no, .no, .no]) (tp := fun x16 => (un2 x16)) (F1 := fun (s8 : List U) (q15 : U × U) => [.no, .val z1, .own false s8, .val q15.1, .val q15.2, .no]) (iv_en (ev_sl ((ev_var (i := 0) rfl).b) (ov_some (ev_var (i := 1) rfl)) (ov_some (ev_int (i := 63))))) (.drop rfl (.keep (.keep (.keep (.keep (.keep (.nil))))))) (fun s8 x16 => (pw_tp2 (i := 3) (j := 4) (F := fun q15 => [.no, .val z1, .own false s8, .val q15.1, .val q15.2, .no]) (fun _ => rfl) rfl rfl )) (fun s8 q15 =>
  (sn_seq (sn_st (F := fun (v5_17 : U) => [.no, .val z1, .own false s8, .val q15.1, .val q15.2, .val v5_17]) (sn_asg (i := 5) (xk_v (ev_bin op_modU ((ev_f1 op_intU ((ev_var (i := 3) rfl).b)).b) ((ev_var (i := 1) rfl).b)))) (fun _ => rfl)) fun v5_17 =>
  (sn_to (f := fun (v2_28 : List U) => v2_28) (G := fun (g31 : List U) => [.no, .val z1, .own false g31, .no, .no, .no]) (sn_st (F := fun (v2_28 : List U) => [.no, .val z1, .own false v2_28, .val q15.1, .val q15.2, .val v5_17]) (sn_set (i := 2) rfl (ev_var (i := 5) rfl) (ev_bin op_addU ((ev_bin op_ixU ((eb_own (i := 2) rfl)) ((ev_var (i := 5) rfl).b)).b) ((ev_bin op_mulU ((ev_var (i := 4) rfl).b) ((ev_bin op_addU ((ev_var (i := 3) rfl).b) ((ev_int (i := 2)).b)).b)).b))) (fun _ => rfl)) (fun v2_28 => (.keep (.keep (.keep (.drop rfl (.drop rfl (.drop rfl (.nil)))))))))))) fun s8 =>
  (ss_wk (B := [.no, .val z1, .val (.lst s8), .no, .no, .no]) (.keep (.keep (.frz (.keep (.keep (.keep (.nil))))))) (ss_ret (ev_var (i := 2) rfl))))))
  exact h
theorem v__law_of : FR f__law_of (bp1 S.u__law_of) := by
  have h := fr_mk1 (nN := 2) (G := fun (_ : Unit) => [.no, .no]) (FB := noU) fun z0 z1 => ss_A (B := [.own true z0, .val z1]) rfl ((ss_retE (i := 0) (c := fun s => s) (F := fun (s20 : List U) => [.own true s20, .val z1]) (ee_bin op_ixU (ee_ev (s := z0) (F := fun (s6 : List U) => [.own true s6, .val z1]) (ev_var (i := 1) rfl)) fun s4 => (ee_callR (i := 0) (b := true) (c := fun s => s) (up := fun _ v => v) v__law_take ⟨_, rfl⟩ (fun _ => rfl) (fun _ _ => rfl) (eea_of (s := s4) (F := fun (s18 : List U) => [.own true s18, .val z1]) (ea_cons (ev_f1 op_lenU ((ev_var (i := 1) rfl).b)) ea_nil)))) (fun _ => rfl)))
  exact h
theorem v__law_all_links : FN f__law_all_links (ap1 S.u__law_all_links) := by
  have h := fn_mk1 (nN := 9) (F := fun (_ : Unit) => [.no, .no, .no, .no, .no, .no, .no, .no, .no]) (FB := noU) fun z0 => ss_A (B := [.val z0, .no, .no, .no, .no, .no, .no, .no, .no]) rfl ((ss_sn (sn_st (F := fun (v1_1 : List U) => [.val z0, .own false v1_1, .no, .no, .no, .no, .no, .no, .no]) (sn_asg (i := 1) (xk_l (el_lst1 (EL.v (el_lst1 (ev_tup ea_nil)))))) (fun _ => rfl)) fun v1_1 =>
  (ss_sn (sn_for (s0 := v1_1) (p := (.nm 2)) (F := fun (s6 : List U) => [.val z0, .own false s6, .no, .no, .no, .no, .no, .no, .no]) (tp := fun x12 => (some x12)) (F1 := fun (s6 : List U) (q11 : U) => [.val z0, .own false s6, .val q11, .no, .no, .no, .no, .no, .no]) (iv_rng2 (ev_int (i := 1)) (ev_bin op_addU ((ev_var (i := 0) rfl).b) ((ev_int (i := 1)).b))) (.keep (.keep (.keep (.keep (.keep (.keep (.keep (.keep (.keep (.nil)))))))))) (fun s6 x12 => (pw_nm (i := 2) (F := fun q11 => [.val z0, .own false s6, .val q11, .no, .no, .no, .no, .no, .no]) (fun _ => rfl) rfl)) (fun s6 q11 =>
  (sn_seq (sn_st (F := fun (v3_13 : List U) => [.val z0, .own false s6, .val q11, .own false v3_13, .no, .no, .no, .no, .no]) (sn_asg (i := 3) (xk_l el_nil)) (fun _ => rfl)) fun v3_13 =>
  (sn_seq (sn_for (s0 := v3_13) (p := (.nm 4)) (F := fun (s14 : List U) => [.val z0, .own false s6, .val q11, .own false s14, .no, .no, .no, .no, .no]) (tp := fun x17 => (some x17)) (F1 := fun (s14 : List U) (q16 : U) => [.val z0, .own false s6, .val q11, .own false s14, .val q16, .no, .no, .no, .no]) (iv_rng1 (ev_var (i := 2) rfl)) (.keep (.keep (.keep (.keep (.keep (.keep (.keep (.keep (.keep (.nil)))))))))) (fun s14 x17 => (pw_nm (i := 4) (F := fun q16 => [.val z0, .own false s6, .val q11, .own false s14, .val q16, .no, .no, .no, .no]) (fun _ => rfl) rfl)) (fun s14 q16 =>
  (sn_to (f := fun (s18 : List U) => s18) (G := fun (g78 : List U) => [.val z0, .own false s6, .val q11, .own false g78, .no, .no, .no, .no, .no]) (sn_for (s0 := s14) (p := (.nm 5)) (F := fun (s18 : List U) => [.val z0, .own false s6, .val q11, .own false s18, .val q16, .no, .no, .no, .no]) (tp := fun x24 => (some x24)) (F1 := fun (s18 : List U) (q23 : U) => [.val z0, .own false s6, .val q11, .own false s18, .val q16, .val q23, .no, .no, .no]) (iv_of (ev_bin op_ixU ((eb_own (i := 1) rfl)) ((ev_var (i := 4) rfl).b))) (.keep (.keep (.keep (.keep (.keep (.keep (.keep (.keep (.keep (.nil)))))))))) (fun s18 x24 => (pw_nm (i := 5) (F := fun q23 => [.val z0, .own false s6, .val q11, .own false s18, .val q16, .val q23, .no, .no, .no]) (fun _ => rfl) rfl)) (fun s18 q23 =>
  (sn_to (f := fun (s25 : List U) => s25) (G := fun (g76 : List U) => [.val z0, .own false s6, .val q11, .own false g76, .val q16, .no, .no, .no, .no]) (sn_for (s0 := s18) (p := (.nm 6)) (F := fun (s25 : List U) => [.val z0, .own false s6, .val q11, .own false s25, .val q16, .val q23, .no, .no, .no]) (tp := fun x39 => (some x39)) (F1 := fun (s25 : List U) (q38 : U) => [.val z0, .own false s6, .val q11, .own false s25, .val q16, .val q23, .val q38, .no, .no]) (iv_of (ev_bin op_ixU ((eb_own (i := 1) rfl)) ((ev_bin op_subU ((ev_bin op_subU ((ev_var (i := 2) rfl).b) ((ev_int (i := 1)).b)).b) ((ev_var (i := 4) rfl).b)).b))) (.keep (.keep (.keep (.keep (.keep (.keep (.keep (.keep (.keep (.nil)))))))))) (fun s25 x39 => (pw_nm (i := 6) (F := fun q38 => [.val z0, .own false s6, .val q11, .own false s25, .val q16, .val q23, .val q38, .no, .no]) (fun _ => rfl) rfl)) (fun s25 q38 =>
  (sn_seq (sn_st (F := fun (v7_40 : U) => [.val z0, .own false s6, .val q11, .own false s25, .val q16, .val q23, .val q38, .val v7_40, .no]) (sn_asg (i := 7) (xk_v (EL.v (el_comp (vs := [8]) (A0 := [.val z0, .own false s6, .val q11, .own false s25, .val q16, .val q23, .val q38, .no, .no]) (iv_of (ev_var (i := 5) rfl)) rfl rfl (cm_map (p := (.nm 8)) (tp := fun x44 => (some x44)) (fun x44 => (pw_nm (i := 8) (F := fun q43 => [.val z0, .own false s6, .val q11, .own false s25, .val q16, .val q23, .val q38, .no, .val q43]) (fun _ => rfl) rfl)) fun q43 => (ev_bin op_addU ((ev_var (i := 8) rfl).b) ((ev_int (i := 1)).b))))))) (fun _ => rfl)) fun v7_40 =>
  (sn_to (f := fun (v3_48 : List U) => v3_48) (G := fun (g74 : List U) => [.val z0, .own false s6, .val q11, .own false g74, .val q16, .val q23, .no, .no, .no]) (sn_st (F := fun (v3_48 : List U) => [.val z0, .own false s6, .val q11, .own false v3_48, .val q16, .val q23, .val q38, .val v7_40, .no]) (sn_app (i := 3) rfl (ev_f1 op_tupleU ((ev_bin op_addU ((ev_bin op_addU ((ev_bin op_addU ((EL.v (el_lst1 (ev_bin op_addU ((ev_bin op_mulU ((ev_int (i := 2)).b) ((ev_var (i := 4) rfl).b)).b) ((ev_int (i := 1)).b)))).b) ((ev_var (i := 7) rfl).b)).b) ((EL.v (el_lst1 (ev_int (i := 0)))).b)).b) ((EL.v (el_comp (vs := [8]) (A0 := [.val z0, .own false s6, .val q11, .own false s25, .val q16, .val q23, .val q38, .val v7_40, .no]) (iv_of (ev_var (i := 6) rfl)) rfl rfl (cm_map (p := (.nm 8)) (tp := fun x64 => (some x64)) (fun x64 => (pw_nm (i := 8) (F := fun q63 => [.val z0, .own false s6, .val q11, .own false s25, .val q16, .val q23, .val q38, .val v7_40, .val q63]) (fun _ => rfl) rfl)) fun q63 => (ev_bin op_addU ((ev_bin op_addU ((ev_var (i := 8) rfl).b) ((ev_bin op_mulU ((ev_int (i := 2)).b) ((ev_var (i := 4) rfl).b)).b)).b) ((ev_int (i := 2)).b))))).b)).b))) (fun _ => rfl)) (fun v3_48 => (.keep (.keep (.keep (.keep (.keep (.keep (.drop rfl (.drop rfl (.keep (.nil))))))))))))))) (fun s25 => (.keep (.keep (.keep (.keep (.keep (.drop rfl (.keep (.keep (.keep (.nil)))))))))))))) (fun s18 => (.keep (.keep (.keep (.keep (.drop rfl (.keep (.keep (.keep (.keep (.nil)))))))))))))) fun s14 =>
  (sn_wk (B := [.val z0, .own false s6, .val q11, .val (.lst s14), .no, .no, .no, .no, .no]) (.keep (.keep (.keep (.frz (.keep (.keep (.keep (.keep (.keep (.nil)))))))))) (sn_to (f := fun (v1_80 : List U) => v1_80) (G := fun (g81 : List U) => [.val z0, .own false g81, .no, .no, .no, .no, .no, .no, .no]) (sn_st (F := fun (v1_80 : List U) => [.val z0, .own false v1_80, .val q11, .val (.lst s14), .no, .no, .no, .no, .no]) (sn_app (i := 1) rfl (ev_var (i := 3) rfl)) (fun _ => rfl)) (fun v1_80 => (.keep (.keep (.drop rfl (.drop rfl (.keep (.keep (.keep (.keep (.keep (.nil))))))))))))))))) fun s6 =>
  (ss_ret (EL.v (el_f1 op_sortedL ((ev_bin op_ixU ((eb_own (i := 1) rfl)) ((ev_var (i := 0) rfl).b)).b)))))))
  exact h
theorem v_law : FN f_law (ap1 S.u_law_k70) := by
  have h := fn_mk1 (nN := 17) (F := fun (_ : Unit) => [.no, .no, .no, .no, .no, .no, .no, .no, .no, .no, .no, .no, .no, .no, .no, .no, .no]) (FB := noU) fun z0 => ss_A (B := [.val z0, .no, .no, .no, .no, .no, .no, .no, .no, .no, .no, .no, .no, .no, .no, .no, .no]) rfl ((ss_sn (sn_st (F := fun (v1_1 : List U) => [.val z0, .own false v1_1, .no, .no, .no, .no, .no, .no, .no, .no, .no, .no, .no, .no, .no, .no, .no]) (sn_asg (i := 1) (xk_l (el_call2 w__law_box (ev_call2 v__law_cells (ev_var (i := 0) rfl) (ev_int (i := 1))) (ev_int (i := 0))))) (fun _ => rfl)) fun v1_1 =>
  (ss_seq (F := fun (s6 : List U) => [.no, .own false s6, .no, .no, .no, .no, .no, .no, .no, .no, .no, .no, .no, .no, .no, .no, .no]) (ss_for (s0 := v1_1) (p := (.nm 2)) (F := fun (s6 : List U) => [.no, .own false s6, .no, .no, .no, .no, .no, .no, .no, .no, .no, .no, .no, .no, .no, .no, .no]) (tp := fun x8 => (some x8)) (F1 := fun (s6 : List U) (q7 : U) => [.no, .own false s6, .val q7, .no, .no, .no, .no, .no, .no, .no, .no, .no, .no, .no, .no, .no, .no]) (iv_rng1 (ev_int (i := 4))) (.drop rfl (.keep (.keep (.keep (.keep (.keep (.keep (.keep (.keep (.keep (.keep (.keep (.keep (.keep (.keep (.keep (.keep (.nil)))))))))))))))))) (fun s6 x8 => (pw_nm (i := 2) (F := fun q7 => [.no, .own false s6, .val q7, .no, .no, .no, .no, .no, .no, .no, .no, .no, .no, .no, .no, .no, .no]) (fun _ => rfl) rfl)) (fun s6 q7 =>
  (ss_sn (sn_st (F := fun (v3_9 : (List U) × U) => [.no, .own false v3_9.1, .val q7, .val v3_9.2, .no, .no, .no, .no, .no, .no, .no, .no, .no, .no, .no, .no, .no]) (sn_asgE (i := 3) (F := fun (s28 : List U) => [.no, .own false s28, .val q7, .no, .no, .no, .no, .no, .no, .no, .no, .no, .no, .no, .no, .no, .no]) (ee_bin op_addU (ee_ev (s := s6) (F := fun (s15 : List U) => [.no, .own false s15, .val q7, .no, .no, .no, .no, .no, .no, .no, .no, .no, .no, .no, .no, .no, .no]) (ev_int (i := 1))) fun s13 => (ee_callR (i := 1) (b := false) (c := fun s => s) (up := fun _ v => v) v__law_take ⟨_, rfl⟩ (fun _ => rfl) (fun _ _ => rfl) (eea_of (s := s13) (F := fun (s27 : List U) => [.no, .own false s27, .val q7, .no, .no, .no, .no, .no, .no, .no, .no, .no, .no, .no, .no, .no, .no]) (ea_cons (ev_int (i := 6)) ea_nil)))) (fun _ => rfl)) (fun _ => rfl)) fun v3_9 =>
  (ss_sn (sn_st (F := fun (v4_29 : (List U) × U) => [.no, .own false v4_29.1, .val q7, .val v3_9.2, .val v4_29.2, .no, .no, .no, .no, .no, .no, .no, .no, .no, .no, .no, .no]) (sn_asgE (i := 4) (F := fun (s37 : List U) => [.no, .own false s37, .val q7, .val v3_9.2, .no, .no, .no, .no, .no, .no, .no, .no, .no, .no, .no, .no, .no]) (ee_callR (i := 1) (b := false) (c := fun s => s) (up := fun _ v => v) v__law_of ⟨_, rfl⟩ (fun _ => rfl) (fun _ _ => rfl) (eea_of (s := v3_9.1) (F := fun (s36 : List U) => [.no, .own false s36, .val q7, .val v3_9.2, .no, .no, .no, .no, .no, .no, .no, .no, .no, .no, .no, .no, .no]) (ea_cons (ev_call1 v__law_all_links (ev_var (i := 3) rfl)) ea_nil))) (fun _ => rfl)) (fun _ => rfl)) fun v4_29 =>
  (ss_sn (sn_st (F := fun (p38 : (List U) × U × U) => [.no, .own false p38.1, .val q7, .val v3_9.2, .val v4_29.2, .val p38.2.1, .val p38.2.2, .no, .no, .no, .no, .no, .no, .no, .no, .no, .no]) (sn_patE (p := (.tp [5, 6])) (F := fun (s107 : List U) => [.no, .own false s107, .val q7, .val v3_9.2, .val v4_29.2, .no, .no, .no, .no, .no, .no, .no, .no, .no, .no, .no, .no]) (tp := fun x106 => (un2 x106)) (F1 := fun (s105 : List U) (q104 : U × U) => [.no, .own false s105, .val q7, .val v3_9.2, .val v4_29.2, .val q104.1, .val q104.2, .no, .no, .no, .no, .no, .no, .no, .no, .no, .no]) (ee_tup (eea_cons (ee_callR (i := 1) (b := false) (c := fun s => s) (up := fun _ v => v) v__law_take ⟨_, rfl⟩ (fun _ => rfl) (fun _ _ => rfl) (eea_of (s := v4_29.1) (F := fun (s49 : List U) => [.no, .own false s49, .val q7, .val v3_9.2, .val v4_29.2, .no, .no, .no, .no, .no, .no, .no, .no, .no, .no, .no, .no]) (ea_cons (ev_bin op_mulU ((ev_int (i := 2)).b) ((ev_var (i := 3) rfl).b)) ea_nil))) fun s41 => (eea_cons (ee_bin op_subU (ee_callR (i := 1) (b := false) (c := fun s => s) (up := fun _ v => v) v__law_take ⟨_, rfl⟩ (fun _ => rfl) (fun _ _ => rfl) (eea_of (s := s41) (F := fun (s92 : List U) => [.no, .own false s92, .val q7, .val v3_9.2, .val v4_29.2, .no, .no, .no, .no, .no, .no, .no, .no, .no, .no, .no, .no]) (ea_cons (ev_bin op_addU ((ev_bin op_mulU ((ev_int (i := 4)).b) ((ev_var (i := 3) rfl).b)).b) ((ev_int (i := 1)).b)) ea_nil))) fun s82 => (ee_ev (s := s82) (F := fun (s100 : List U) => [.no, .own false s100, .val q7, .val v3_9.2, .val v4_29.2, .no, .no, .no, .no, .no, .no, .no, .no, .no, .no, .no, .no]) (ev_bin op_mulU ((ev_int (i := 2)).b) ((ev_var (i := 3) rfl).b)))) fun s78 => (eea_nil (s := s78) (F := fun (s101 : List U) => [.no, .own false s101, .val q7, .val v3_9.2, .val v4_29.2, .no, .no, .no, .no, .no, .no, .no, .no, .no, .no, .no, .no]))))) (fun s105 x106 => (pw_tp2 (i := 5) (j := 6) (F := fun q104 => [.no, .own false s105, .val q7, .val v3_9.2, .val v4_29.2, .val q104.1, .val q104.2, .no, .no, .no, .no, .no, .no, .no, .no, .no, .no]) (fun _ => rfl) rfl rfl ))) (fun _ => rfl)) fun p38 =>
  (ss_sn (sn_st (F := fun (v7_108 : U) => [.no, .own false p38.1, .val q7, .val v3_9.2, .val v4_29.2, .val p38.2.1, .val p38.2.2, .val v7_108, .no, .no, .no, .no, .no, .no, .no, .no, .no]) (sn_asg (i := 7) (xk_v (ev_bin op_modU ((ev_bin op_addU ((ev_var (i := 5) rfl).b) ((ev_int (i := 1)).b)).b) ((ev_bin op_mulU ((ev_int (i := 2)).b) ((ev_var (i := 3) rfl).b)).b)))) (fun _ => rfl)) fun v7_108 =>
  (ss_sn (sn_st (F := fun (v8_115 : U) => [.no, .own false p38.1, .val q7, .val v3_9.2, .val v4_29.2, .val p38.2.1, .val p38.2.2, .val v7_108, .val v8_115, .no, .no, .no, .no, .no, .no, .no, .no]) (sn_asg (i := 8) (xk_v (ev_call2 v_link_moved (ev_var (i := 4) rfl) (ev_var (i := 5) rfl)))) (fun _ => rfl)) fun v8_115 =>
  (ss_ifq (tv_or (tv_cmp ob_isnot ((ev_call1 v_is_links (ev_var (i := 8) rfl)).b) ((ev_bl (i := true)).b)) (tv_or (tv_cmp ob_ne ((ev_bin op_ixU ((ev_var (i := 8) rfl).b) ((ev_var (i := 5) rfl).b)).b) ((ev_var (i := 7) rfl).b)) (tv_or (tv_cmp ob_ne ((ev_bin op_ixU ((ev_var (i := 8) rfl).b) ((ev_var (i := 7) rfl).b)).b) ((ev_var (i := 5) rfl).b)) (tv_cmp ob_ne ((ev_cmp ob_eq ((ev_var (i := 8) rfl).b) ((ev_var (i := 4) rfl).b)).b) ((ev_cmp ob_eq ((ev_bin op_ixU ((ev_var (i := 4) rfl).b) ((ev_var (i := 5) rfl).b)).b) ((ev_var (i := 7) rfl).b)).b)))))
  (ss_rq (ss_ret (ev_bl (i := false))))
  (ss_nl (ss_seq (F := fun (s144 : Unit) => [.no, .own false p38.1, .no, .val v3_9.2, .val v4_29.2, .val p38.2.1, .val p38.2.2, .val v7_108, .val v8_115, .no, .no, .no, .no, .no, .no, .no, .no]) (ss_for (s0 := ()) (p := (.nm 9)) (F := fun (s144 : Unit) => [.no, .own false p38.1, .no, .val v3_9.2, .val v4_29.2, .val p38.2.1, .val p38.2.2, .val v7_108, .val v8_115, .no, .no, .no, .no, .no, .no, .no, .no]) (tp := fun x146 => (some x146)) (F1 := fun (s144 : Unit) (q145 : U) => [.no, .own false p38.1, .no, .val v3_9.2, .val v4_29.2, .val p38.2.1, .val p38.2.2, .val v7_108, .val v8_115, .val q145, .no, .no, .no, .no, .no, .no, .no]) (iv_of (ev_tup4 (ev_var (i := 4) rfl) (ev_var (i := 8) rfl) (ev_call2 v_links_turned (ev_var (i := 4) rfl) (ev_var (i := 6) rfl)) (ev_call1 v_links_mirrored (ev_var (i := 4) rfl)))) (.keep (.keep (.drop rfl (.keep (.keep (.keep (.keep (.keep (.keep (.keep (.keep (.keep (.keep (.keep (.keep (.keep (.keep (.nil)))))))))))))))))) (fun s144 x146 => (pw_nm (i := 9) (F := fun q145 => [.no, .own false p38.1, .no, .val v3_9.2, .val v4_29.2, .val p38.2.1, .val p38.2.2, .val v7_108, .val v8_115, .val q145, .no, .no, .no, .no, .no, .no, .no]) (fun _ => rfl) rfl)) (fun s144 q145 =>
  (ss_sn (sn_st (F := fun (v10_147 : U) => [.no, .own false p38.1, .no, .val v3_9.2, .val v4_29.2, .val p38.2.1, .val p38.2.2, .val v7_108, .val v8_115, .val q145, .val v10_147, .no, .no, .no, .no, .no, .no]) (sn_asg (i := 10) (xk_v (ev_call1 v_link_bits (ev_var (i := 9) rfl)))) (fun _ => rfl)) fun v10_147 =>
  (ss_if (tv_or (tv_cmp ob_ne ((ev_call1 v_links_of_bits (ev_var (i := 10) rfl)).b) ((ev_var (i := 9) rfl).b)) (tv_or (tv_cmp ob_ne ((ev_f1 op_sumU ((ev_var (i := 10) rfl).b)).b) ((ev_var (i := 3) rfl).b)) (tv_cmp ob_ne ((EL.v (el_comp (vs := [15]) (A0 := [.no, .own false p38.1, .no, .val v3_9.2, .val v4_29.2, .val p38.2.1, .val p38.2.2, .val v7_108, .val v8_115, .val q145, .val v10_147, .no, .no, .no, .no, .no, .no]) (iv_rng1 (ev_bin op_mulU ((ev_int (i := 2)).b) ((ev_var (i := 3) rfl).b))) rfl rfl (cm_fil (p := (.nm 15)) (tp := fun x160 => (some x160)) (fun x160 => (pw_nm (i := 15) (F := fun q159 => [.no, .own false p38.1, .no, .val v3_9.2, .val v4_29.2, .val p38.2.1, .val p38.2.2, .val v7_108, .val v8_115, .val q145, .val v10_147, .no, .no, .no, .no, .val q159, .no]) (fun _ => rfl) rfl)) (fun q159 => (tv_cmp ob_lt ((ev_bin op_mulU ((ev_f1 op_sumU ((ev_sl ((ev_var (i := 10) rfl).b) ov_none (ov_some (ev_var (i := 15) rfl))).b)).b) ((ev_int (i := 2)).b)).b) ((ev_var (i := 15) rfl).b))) fun q159 => (ev_var (i := 15) rfl)))).b) ((EL.v el_nil).b))))
  (ss_ret (ev_bl (i := false)))
  (ss_nx (s := ()) (.keep (.keep (.keep (.keep (.keep (.keep (.keep (.keep (.keep (.drop rfl (.drop rfl (.keep (.keep (.keep (.keep (.keep (.keep (.nil))))))))))))))))))))))) fun s144 =>
  (ss_ifq (tv_or (tv_cmp ob_ne ((ev_call2 v_links_turned (ev_call2 v_links_turned (ev_var (i := 4) rfl) (ev_var (i := 6) rfl)) (ev_bin op_subU ((ev_int (i := 0)).b) ((ev_var (i := 6) rfl).b))).b) ((ev_var (i := 4) rfl).b)) (tv_or (tv_cmp ob_ne ((ev_call1 v_links_mirrored (ev_call1 v_links_mirrored (ev_var (i := 4) rfl))).b) ((ev_var (i := 4) rfl).b)) (tv_cmp ob_ne ((ev_call2 v_links_turned (ev_var (i := 4) rfl) (ev_bin op_mulU ((ev_int (i := 2)).b) ((ev_var (i := 3) rfl).b))).b) ((ev_var (i := 4) rfl).b))))
  (ss_rq (ss_ret (ev_bl (i := false))))
  (ss_nl (ss_ifq (tv_or (tv_cmp ob_ne ((ev_call1 v_link_bits (ev_call1 v_links_mirrored (ev_var (i := 4) rfl))).b) ((ev_f1 op_tupleU ((EL.v (el_comp (vs := [15]) (A0 := [.no, .own false p38.1, .no, .val v3_9.2, .val v4_29.2, .val p38.2.1, .val p38.2.2, .val v7_108, .val v8_115, .no, .no, .no, .no, .no, .no, .no, .no]) (iv_of (ev_un op_revU ((ev_call1 v_link_bits (ev_var (i := 4) rfl)).b))) rfl rfl (cm_map (p := (.nm 15)) (tp := fun x222 => (some x222)) (fun x222 => (pw_nm (i := 15) (F := fun q221 => [.no, .own false p38.1, .no, .val v3_9.2, .val v4_29.2, .val p38.2.1, .val p38.2.2, .val v7_108, .val v8_115, .no, .no, .no, .no, .no, .no, .val q221, .no]) (fun _ => rfl) rfl)) fun q221 => (ev_bin op_subU ((ev_int (i := 1)).b) ((ev_var (i := 15) rfl).b))))).b)).b)) (tv_cmp ob_ne ((ev_call2 v_link_moved (ev_call2 v_links_turned (ev_var (i := 4) rfl) (ev_int (i := 1))) (ev_bin op_modU ((ev_bin op_addU ((ev_var (i := 5) rfl).b) ((ev_int (i := 1)).b)).b) ((ev_bin op_mulU ((ev_int (i := 2)).b) ((ev_var (i := 3) rfl).b)).b))).b) ((ev_call2 v_links_turned (ev_var (i := 8) rfl) (ev_int (i := 1))).b)))
  (ss_rq (ss_ret (ev_bl (i := false))))
  (ss_nl (ss_seq (F := fun (s245 : Unit) => [.no, .own false p38.1, .no, .val v3_9.2, .val v4_29.2, .no, .no, .no, .no, .no, .no, .no, .no, .no, .no, .no, .no]) (ss_if (tv_cmp ob_gt ((ev_var (i := 3) rfl).b) ((ev_int (i := 1)).b))
  (ss_sn (sn_st (F := fun (v11_249 : U) => [.no, .own false p38.1, .no, .val v3_9.2, .val v4_29.2, .val p38.2.1, .val p38.2.2, .val v7_108, .val v8_115, .no, .no, .val v11_249, .no, .no, .no, .no, .no]) (sn_asg (i := 11) (xk_v (EL.v (el_comp (vs := [9]) (A0 := [.no, .own false p38.1, .no, .val v3_9.2, .val v4_29.2, .val p38.2.1, .val p38.2.2, .val v7_108, .val v8_115, .no, .no, .no, .no, .no, .no, .no, .no]) (iv_of (ev_call1 v_all_links (ev_var (i := 3) rfl))) rfl rfl (cm_fil (p := (.nm 9)) (tp := fun x255 => (some x255)) (fun x255 => (pw_nm (i := 9) (F := fun q254 => [.no, .own false p38.1, .no, .val v3_9.2, .val v4_29.2, .val p38.2.1, .val p38.2.2, .val v7_108, .val v8_115, .val q254, .no, .no, .no, .no, .no, .no, .no]) (fun _ => rfl) rfl)) (fun q254 => (tv_cmp ob_eq ((ev_bin op_ixU ((ev_var (i := 9) rfl).b) ((ev_var (i := 5) rfl).b)).b) ((ev_var (i := 7) rfl).b))) fun q254 => (ev_var (i := 9) rfl)))))) (fun _ => rfl)) fun v11_249 =>
  (ss_if (tv_or (tv_cmp ob_ne ((ev_f1 op_lenU ((ev_var (i := 11) rfl).b)).b) ((ev_call1 v_how_many_links (ev_bin op_subU ((ev_var (i := 3) rfl).b) ((ev_int (i := 1)).b))).b)) (tv_cmp ob_ne ((EL.v (el_f1 op_sortSetL ((EL.v (el_comp (vs := [9]) (A0 := [.no, .own false p38.1, .no, .val v3_9.2, .val v4_29.2, .val p38.2.1, .val p38.2.2, .val v7_108, .val v8_115, .no, .no, .val v11_249, .no, .no, .no, .no, .no]) (iv_of (ev_call1 v_all_links (ev_var (i := 3) rfl))) rfl rfl (cm_map (p := (.nm 9)) (tp := fun x273 => (some x273)) (fun x273 => (pw_nm (i := 9) (F := fun q272 => [.no, .own false p38.1, .no, .val v3_9.2, .val v4_29.2, .val p38.2.1, .val p38.2.2, .val v7_108, .val v8_115, .val q272, .no, .val v11_249, .no, .no, .no, .no, .no]) (fun _ => rfl) rfl)) fun q272 => (ev_call2 v_link_moved (ev_var (i := 9) rfl) (ev_var (i := 5) rfl))))).b))).b) ((ev_var (i := 11) rfl).b)))
  (ss_ret (ev_bl (i := false)))
  (ss_nx (s := ()) (.keep (.keep (.keep (.keep (.keep (.drop rfl (.drop rfl (.drop rfl (.drop rfl (.keep (.keep (.drop rfl (.keep (.keep (.keep (.keep (.keep (.nil)))))))))))))))))))))
  (ss_nx (s := ()) (.keep (.keep (.keep (.keep (.keep (.drop rfl (.drop rfl (.drop rfl (.drop rfl (.keep (.keep (.keep (.keep (.keep (.keep (.keep (.keep (.nil)))))))))))))))))))) fun s245 =>
  (ss_ifq (tv_cmp ob_ne ((ev_f1 op_lenU ((EL.v (el_comp (vs := [15, 9]) (A0 := [.no, .own false p38.1, .no, .val v3_9.2, .val v4_29.2, .no, .no, .no, .no, .no, .no, .no, .no, .no, .no, .no, .no]) (iv_en (ev_call1 v_links_beside (ev_var (i := 4) rfl))) rfl rfl (cm_fil (p := (.tp [15, 9])) (tp := fun x288 => (un2 x288)) (fun x288 => (pw_tp2 (i := 15) (j := 9) (F := fun q287 => [.no, .own false p38.1, .no, .val v3_9.2, .val v4_29.2, .no, .no, .no, .no, .val q287.2, .no, .no, .no, .no, .no, .val q287.1, .no]) (fun _ => rfl) rfl rfl )) (fun q287 => (tv_cmp ob_eq ((ev_var (i := 9) rfl).b) ((ev_var (i := 4) rfl).b))) fun q287 => (ev_var (i := 15) rfl)))).b)).b) ((ev_f1 op_lenU ((EL.v (el_comp (vs := [15]) (A0 := [.no, .own false p38.1, .no, .val v3_9.2, .val v4_29.2, .no, .no, .no, .no, .no, .no, .no, .no, .no, .no, .no, .no]) (iv_rng1 (ev_bin op_mulU ((ev_int (i := 2)).b) ((ev_var (i := 3) rfl).b))) rfl rfl (cm_fil (p := (.nm 15)) (tp := fun x300 => (some x300)) (fun x300 => (pw_nm (i := 15) (F := fun q299 => [.no, .own false p38.1, .no, .val v3_9.2, .val v4_29.2, .no, .no, .no, .no, .no, .no, .no, .no, .no, .no, .val q299, .no]) (fun _ => rfl) rfl)) (fun q299 => (tv_cmp ob_eq ((ev_bin op_ixU ((ev_var (i := 4) rfl).b) ((ev_var (i := 15) rfl).b)).b) ((ev_bin op_modU ((ev_bin op_addU ((ev_var (i := 15) rfl).b) ((ev_int (i := 1)).b)).b) ((ev_bin op_mulU ((ev_int (i := 2)).b) ((ev_var (i := 3) rfl).b)).b)).b))) fun q299 => (ev_var (i := 15) rfl)))).b)).b))
  (ss_rq (ss_ret (ev_bl (i := false))))
  (ss_nl (ss_sn (sn_st (F := fun (p318 : U × U) => [.no, .own false p38.1, .no, .val v3_9.2, .val v4_29.2, .no, .no, .no, .no, .no, .no, .no, .val p318.1, .val p318.2, .no, .no, .no]) (sn_par (i := 12) (j := 13) (xk_v (ev_call1 v_nested_links (ev_var (i := 3) rfl))) (xk_v (ev_call1 v_short_links (ev_var (i := 3) rfl)))) (fun _ => rfl)) fun p318 =>
  (ss_if (tv_or (tv_cmp ob_ne ((ev_call1 v_links_mirrored (ev_var (i := 12) rfl)).b) ((ev_var (i := 12) rfl).b)) (tv_or (tv_cmp ob_ne ((ev_call2 v_links_turned (ev_var (i := 13) rfl) (ev_int (i := 2))).b) ((ev_var (i := 13) rfl).b)) (tv_or (tv_cmp ob_ne ((ev_call1 v_links_mirrored (ev_var (i := 13) rfl)).b) ((ev_var (i := 13) rfl).b)) (tv_cmp ob_ne ((ev_call2 v_links_turned (ev_var (i := 12) rfl) (ev_var (i := 3) rfl)).b) ((ev_var (i := 12) rfl).b)))))
  (ss_ret (ev_bl (i := false)))
  (ss_nx (s := p38.1) (.keep (.keep (.keep (.drop rfl (.drop rfl (.keep (.keep (.keep (.keep (.keep (.keep (.keep (.drop rfl (.drop rfl (.keep (.keep (.keep (.nil)))))))))))))))))))))))))))))))))))))) fun s6 =>
  (ss_sn (sn_st (F := fun (v14_344 : List U) => [.no, .own false s6, .no, .no, .no, .no, .no, .no, .no, .no, .no, .no, .no, .no, .own false v14_344, .no, .no]) (sn_asg (i := 14) (xk_l (el_lst1 (ev_int (i := 1))))) (fun _ => rfl)) fun v14_344 =>
  (ss_sn (sn_for (s0 := v14_344) (p := (.nm 15)) (F := fun (s346 : List U) => [.no, .no, .no, .no, .no, .no, .no, .no, .no, .no, .no, .no, .no, .no, .own false s346, .no, .no]) (tp := fun x350 => (some x350)) (F1 := fun (s346 : List U) (q349 : U) => [.no, .no, .no, .no, .no, .no, .no, .no, .no, .no, .no, .no, .no, .no, .own false s346, .val q349, .no]) (iv_rng2 (ev_int (i := 1)) (ev_int (i := 12))) (.keep (.drop rfl (.keep (.keep (.keep (.keep (.keep (.keep (.keep (.keep (.keep (.keep (.keep (.keep (.keep (.keep (.keep (.nil)))))))))))))))))) (fun s346 x350 => (pw_nm (i := 15) (F := fun q349 => [.no, .no, .no, .no, .no, .no, .no, .no, .no, .no, .no, .no, .no, .no, .own false s346, .val q349, .no]) (fun _ => rfl) rfl)) (fun s346 q349 =>
  (sn_to (f := fun (v14_351 : List U) => v14_351) (G := fun (g368 : List U) => [.no, .no, .no, .no, .no, .no, .no, .no, .no, .no, .no, .no, .no, .no, .own false g368, .no, .no]) (sn_st (F := fun (v14_351 : List U) => [.no, .no, .no, .no, .no, .no, .no, .no, .no, .no, .no, .no, .no, .no, .own false v14_351, .val q349, .no]) (sn_app (i := 14) rfl (ev_f1 op_sumU ((EL.v (el_comp (vs := [16]) (A0 := [.no, .no, .no, .no, .no, .no, .no, .no, .no, .no, .no, .no, .no, .no, .own false s346, .val q349, .no]) (iv_rng1 (ev_var (i := 15) rfl)) rfl rfl (cm_map (p := (.nm 16)) (tp := fun x356 => (some x356)) (fun x356 => (pw_nm (i := 16) (F := fun q355 => [.no, .no, .no, .no, .no, .no, .no, .no, .no, .no, .no, .no, .no, .no, .own false s346, .val q349, .val q355]) (fun _ => rfl) rfl)) fun q355 => (ev_bin op_mulU ((ev_bin op_ixU ((eb_own (i := 14) rfl)) ((ev_var (i := 16) rfl).b)).b) ((ev_bin op_ixU ((eb_own (i := 14) rfl)) ((ev_bin op_subU ((ev_bin op_subU ((ev_var (i := 15) rfl).b) ((ev_int (i := 1)).b)).b) ((ev_var (i := 16) rfl).b)).b)).b))))).b))) (fun _ => rfl)) (fun v14_351 => (.keep (.keep (.keep (.keep (.keep (.keep (.keep (.keep (.keep (.keep (.keep (.keep (.keep (.keep (.keep (.drop rfl (.keep (.nil)))))))))))))))))))))) fun s346 =>
  (ss_ret (ev_cmp ob_eq ((EL.v (el_comp (vs := [15]) (A0 := [.no, .no, .no, .no, .no, .no, .no, .no, .no, .no, .no, .no, .no, .no, .own false s346, .no, .no]) (iv_rng2 (ev_int (i := 1)) (ev_int (i := 12))) rfl rfl (cm_map (p := (.nm 15)) (tp := fun x375 => (some x375)) (fun x375 => (pw_nm (i := 15) (F := fun q374 => [.no, .no, .no, .no, .no, .no, .no, .no, .no, .no, .no, .no, .no, .no, .own false s346, .val q374, .no]) (fun _ => rfl) rfl)) fun q374 => (ev_call1 v_how_many_links (ev_var (i := 15) rfl))))).b) ((ev_sl ((eb_own (i := 14) rfl)) (ov_some (ev_int (i := 1))) ov_none).b))))))))
  exact h
end Rx.K70

/-! DrawS: the drawing of numbers, over plain values. -/
namespace Rx
theorem bnd_assoc {α β γ : Type} (o : Option α) (f : α → Option β) (g : β → Option γ) : bnd (bnd o f) g = bnd o fun a => bnd (f a) g := by cases o <;> rfl
end Rx
namespace Rx.S
open PySem PySem.Spec PyProof.Rows L2 Rx
/-- the source of draws, at most k draws on -/
def Tin (k : Nat) (xs : List U) : Prop := ∃ t0 t1 t2 : Int, xs = [.int t0, .int t1, .int t2] ∧ 0 ≤ t0 ∧ 0 ≤ t2 ∧ t2 ≤ k
theorem Tin.mono {k l : Nat} {xs : List U} (h : Tin k xs) (hl : k ≤ l) : Tin l xs := by
  obtain ⟨t0, t1, t2, h1, h2, h3, h4⟩ := h
  exact ⟨t0, t1, t2, h1, h2, h3, by omega⟩
theorem gtP_i (i j : Int) : gtP (.int i) (.int j) = some (decide (j < i)) := by
  show some (gtF i j) = _
  rw [gtF_eq]
theorem ltP_i (i j : Int) : ltP (.int i) (.int j) = some (decide (i < j)) := by
  show some (ltF i j) = _
  rw [ltF_eq]
theorem geP_i (i j : Int) : geP (.int i) (.int j) = some (decide (j ≤ i)) := by
  show some (geF i j) = _
  rw [geF_eq]
theorem leP_i (i j : Int) : leP (.int i) (.int j) = some (decide (i ≤ j)) := by
  show some (leF i j) = _
  rw [leF_eq]
theorem addU_i (i j : Int) : addU (.int i) (.int j) = some (.int (i + j)) := rfl
theorem subU_i (i j : Int) : subU (.int i) (.int j) = some (.int (i - j)) := rfl
theorem mulU_i {i j : Int} (h : mulC i j = true) : mulU (.int i) (.int j) = some (.int (i * j)) := by
  show cond (mulC i j) _ _ = _
  rw [h]
  rfl
theorem posD_of {j : Int} (h : 0 < j) (h2 : j < 9223372036854775808) : posD j = true := by
  cases j with
  | ofNat n =>
    show cond (Nat.beq n 0) false (Nat.blt n 9223372036854775808) = true
    have : Nat.beq n 0 = false := by
      cases n with
      | zero => simp at h
      | succ n => rfl
    rw [this]
    simp only [cond_false, Nat.blt_eq]
    simp only [Int.ofNat_eq_natCast] at h2
    omega
  | negSucc n => omega
theorem modU_i {i j : Int} (h : 0 < j) (h2 : j < 9223372036854775808) : modU (.int i) (.int j) = some (.int (i.fmod j)) := by
  show cond (modC' i j) _ _ = _
  have : modC' i j = true := by unfold modC'; rw [posD_of h h2]; rfl
  rw [this]
  rfl
theorem divU_i {i j : Int} (h : 0 < j) (h2 : j < 9223372036854775808) : divU (.int i) (.int j) = some (.int (i.fdiv j)) := by
  show cond (divC' i j) _ _ = _
  have : divC' i j = true := by unfold divC'; rw [posD_of h h2]; rfl
  rw [this]
  rfl
theorem eqI_ne {i j : Int} (h : i ≠ j) : eqI i j = false := by rw [eqI_eq]; simp [h]
theorem take_a {t0 t1 t2 b : Int} (h0 : 0 < t0) (hb : 0 < b) (hb2 : b ≤ 1000000000) :
    u__law_take [.int t0, .int t1, .int t2] (.int b) = some ([.int (t0.fdiv b), .int t1, .int t2], .int (t0.fmod b)) := by
  have h2 : b < 9223372036854775808 := by omega
  have e0 : ixU (.lst [.int t0, .int t1, .int t2]) (.int 0) = some (.int t0) := rfl
  have s0 : ∀ v, setU [.int t0, .int t1, .int t2] (.int 0) v = some [v, .int t1, .int t2] := fun _ => rfl
  have ei : ∀ i, intU (.int i) = some (.int i) := fun _ => rfl
  simp only [u__law_take, bnd_some, e0, gtP_i, decide_eq_true h0, cond_true, ei, modU_i hb h2, divU_i hb h2, s0, retR]
theorem take_b {t1 t2 b : Int} (h2 : 0 ≤ t2) (h3 : t2 ≤ 1000000000) (hb : 0 < b) (hb2 : b ≤ 1000000000) :
    ∃ x, u__law_take [.int 0, .int t1, .int t2] (.int b) = some ([.int 0, .int t1, .int (t2 + 1)], .int (Int.fmod x b)) := by
  have hb3 : b < 9223372036854775808 := by omega
  have e0 : ixU (.lst [.int 0, .int t1, .int t2]) (.int 0) = some (.int 0) := rfl
  have e2 : ixU (.lst [.int 0, .int t1, .int t2]) (.int 2) = some (.int t2) := rfl
  have e1' : ixU (.lst [.int 0, .int t1, .int (t2 + 1)]) (.int 1) = some (.int t1) := rfl
  have e2' : ixU (.lst [.int 0, .int t1, .int (t2 + 1)]) (.int 2) = some (.int (t2 + 1)) := rfl
  have s2 : ∀ v, setU [.int 0, .int t1, .int t2] (.int 2) v = some [.int 0, .int t1, v] := fun _ => rfl
  have ei : ∀ i, intU (.int i) = some (.int i) := fun _ => rfl
  have c1 : ∀ x, modU (.int x) (.int 2147483647) = some (.int (x.fmod 2147483647)) := fun x => modU_i (by decide) (by decide)
  have c2 : ∀ x, modU (.int x) (.int 40009) = some (.int (x.fmod 40009)) := fun x => modU_i (by decide) (by decide)
  have c3 : ∀ x, modU (.int x) (.int 2147483629) = some (.int (x.fmod 2147483629)) := fun x => modU_i (by decide) (by decide)
  have c4 : ∀ x, modU (.int x) (.int 2147483587) = some (.int (x.fmod 2147483587)) := fun x => modU_i (by decide) (by decide)
  have c5 : ∀ x, divU (.int x) (.int 64) = some (.int (x.fdiv 64)) := fun x => divU_i (by decide) (by decide)
  have c6 : ∀ x, divU (.int x) (.int 1000003) = some (.int (x.fdiv 1000003)) := fun x => divU_i (by decide) (by decide)
  have c7 : ∀ x, modU (.int x) (.int b) = some (.int (x.fmod b)) := fun x => modU_i hb hb3
  have sm : small63 (39373 + (t2 + 1)) = true := small63_of (by omega)
  have m1 : ∀ x, mulU (.int 48271) (.int x) = some (.int (48271 * x)) := fun x => mulU_i (mulC_l (by decide))
  have m2 : ∀ x, mulU (.int x) (.int (39373 + (t2 + 1))) = some (.int (x * (39373 + (t2 + 1)))) := fun x => mulU_i (mulC_r sm)
  have m3 : ∀ x y, mulU (.int x) (.int (Int.fmod y 40009 + 7)) = some (.int (x * (Int.fmod y 40009 + 7))) := fun x y => mulU_i (mulC_r (small63_of (by have := fmod_rng (x := y) (b := 40009) (by decide); omega)))
  have m4 : ∀ x, mulU (.int x) (.int 48271) = some (.int (x * 48271)) := fun x => mulU_i (mulC_r (by decide))
  have z : decide ((0 : Int) < 0) = false := rfl
  simp only [u__law_take, bnd_some, e0, e2, gtP_i, z, cond_false, ei, addU_i, s2, e1', e2', c1, c2, c3, c4, c5, c6, c7, m1, m2, m3, m4, retR]
  exact ⟨_, rfl⟩
/-- a draw -/
theorem take_ok {k : Nat} {xs : List U} {b : Int} (h : Tin k xs) (hk : k ≤ 1000000) (hb : 0 < b) (hb2 : b ≤ 1000000000) :
    ∃ xs' d, u__law_take xs (.int b) = some (xs', .int d) ∧ 0 ≤ d ∧ d < b ∧ Tin (k + 1) xs' := by
  obtain ⟨t0, t1, t2, rfl, h0, h2, h3⟩ := h
  by_cases hp : 0 < t0
  · have hr := fmod_rng (x := t0) hb
    refine ⟨_, _, take_a hp hb hb2, hr.1, hr.2, _, _, _, rfl, ?_, h2, by omega⟩
    rw [Int.fdiv_eq_ediv_of_nonneg _ (by omega)]
    exact Int.ediv_nonneg h0 (by omega)
  · have : t0 = 0 := by omega
    subst this
    obtain ⟨x, e⟩ := take_b (t1 := t1) h2 (by omega) hb hb2
    have hr := fmod_rng (x := x) hb
    exact ⟨_, _, e, hr.1, hr.2, _, _, _, rfl, by decide, by omega, by omega⟩
/-- .. as a natural number -/
theorem take_nat {k : Nat} {xs : List U} {b : Nat} (h : Tin k xs) (hk : k ≤ 1000000) (hb : 0 < b) (hb2 : b ≤ 1000000000) :
    ∃ xs' d, u__law_take xs (.int b) = some (xs', .int (d : Nat)) ∧ d < b ∧ Tin (k + 1) xs' := by
  obtain ⟨xs', d, e, h1, h2, h3⟩ := take_ok h hk (b := b) (by omega) (by omega)
  refine ⟨xs', d.toNat, ?_, by omega, h3⟩
  rw [e]
  have : ((d.toNat : Nat) : Int) = d := by omega
  rw [this]
theorem lenU_lst (us : List U) : lenU (.lst us) = some (.int (us.length : Nat)) := rfl
theorem lenU_tup (us : List U) : lenU (.tup us) = some (.int (us.length : Nat)) := rfl
theorem ixU_lst (us : List U) (i : Nat) : ixU (.lst us) (.int (i : Nat)) = us[i]? := nth_eq us i
theorem ixU_tup (us : List U) (i : Nat) : ixU (.tup us) (.int (i : Nat)) = us[i]? := nth_eq us i
/-- one of a list -/
theorem of_ok {k : Nat} {xs gs : List U} (h : Tin k xs) (hk : k ≤ 1000000) (hg : 0 < gs.length) (hg2 : gs.length ≤ 1000000) :
    ∃ xs' g, u__law_of xs (.lst gs) = some (xs', g) ∧ g ∈ gs ∧ Tin (k + 1) xs' := by
  obtain ⟨xs', d, e, h1, h2⟩ := take_nat h hk hg (by omega)
  refine ⟨xs', gs[d], ?_, List.getElem_mem h1, h2⟩
  have hb : bp1 u__law_take xs [.int (gs.length : Nat)] = some (xs', .int (d : Nat)) := e
  simp only [u__law_of, bnd_some, lenU_lst, hb, ixU_lst, List.getElem?_eq_getElem h1, retR]
theorem of_tup {k : Nat} {xs gs : List U} (h : Tin k xs) (hk : k ≤ 1000000) (hg : 0 < gs.length) (hg2 : gs.length ≤ 1000000) :
    ∃ xs' g, u__law_of xs (.tup gs) = some (xs', g) ∧ g ∈ gs ∧ Tin (k + 1) xs' := by
  obtain ⟨xs', d, e, h1, h2⟩ := take_nat h hk hg (by omega)
  refine ⟨xs', gs[d], ?_, List.getElem_mem h1, h2⟩
  have hb : bp1 u__law_take xs [.int (gs.length : Nat)] = some (xs', .int (d : Nat)) := e
  simp only [u__law_of, bnd_some, lenU_tup, hb, ixU_tup, List.getElem?_eq_getElem h1, retR]
/-! the script's numbers, put together -/
theorem enum_ints (ns : List Int) (i : Int) : enumU i (ns.map U.int) = (List.range ns.length).map fun j => .tup [.int (i + (j : Nat)), .int (ns.getD j 0)] := by
  refine List.ext_getElem? fun j => ?_
  rw [enumU_get, List.getElem?_map, List.getElem?_map]
  by_cases h : j < ns.length
  · rw [List.getElem?_range h]
    simp [h]
  · rw [List.getElem?_eq_none (by omega), List.getElem?_eq_none (by simpa using h)]
    rfl
theorem fol_inv {S : Type} {P : S → Prop} {f : U → S → Option S} : ∀ (xs : List U) (s : S), P s → (∀ x ∈ xs, ∀ s, P s → ∃ s', f x s = some s' ∧ P s') → ∃ s', folU f xs s = some s' ∧ P s'
  | [], s, h, _ => ⟨s, rfl, h⟩
  | x :: xs, s, h, hf => by
    obtain ⟨s1, e1, h1⟩ := hf x (by simp) s h
    obtain ⟨s2, e2, h2⟩ := fol_inv xs s1 h1 fun y hy => hf y (List.mem_cons_of_mem _ hy)
    refine ⟨s2, ?_, h2⟩
    show bnd (f x s) _ = _
    rw [e1]
    exact e2
theorem cells_ok (ns : List Int) (h : ns.length ≤ 63) : ∃ c : Int, u__law_cells (.frz ns) (.int 1) = some (.lst [.int c]) := by
  obtain ⟨c0, h0⟩ : ∃ c0 : Int, (bnd (bnd (slU none (some 1) (.frz ns)) seqU) fun a6 => bnd (truU (.lst a6)) fun a7 => cond a7 (some a6) (bnd (some (.int 0)) fun a5 => some [a5])) = some [.int c0] := by
    cases ns with
    | nil => exact ⟨0, rfl⟩
    | cons n r => exact ⟨n, rfl⟩
  obtain ⟨ms, hl, h1⟩ : ∃ ms : List Int, ms.length ≤ 63 ∧ slU (some 1) (some 63) (.frz ns) = some (.lst (ms.map U.int)) := by
    refine ⟨(ns.drop (lowP (ns.map U.int).length (some 1))).take (highP (ns.map U.int).length (some 63) - lowP (ns.map U.int).length (some 1)), ?_, ?_⟩
    · rw [List.length_take, List.length_drop]
      omega
    · show some (U.lst (cutU (ns.map U.int) (some 1) (some 63))) = _
      unfold cutU
      rw [List.map_take, List.map_drop]
  obtain ⟨s', h2, c, rfl⟩ : ∃ s', folU (fun x16 s8 => bnd (un2 x16) fun q15 => lb__law_cells_1 (.int 1) q15 s8) (enumU 0 (ms.map U.int)) [.int c0] = some s' ∧ ∃ c : Int, s' = [U.int c] := by
    refine fol_inv _ _ ⟨c0, rfl⟩ ?_
    rintro x hx s ⟨c, rfl⟩
    rw [enum_ints] at hx
    obtain ⟨j, hj, rfl⟩ := List.mem_map.mp hx
    rw [List.mem_range] at hj
    refine ⟨_, ?_, c + ms.getD j 0 * (0 + (j : Int) + 2), rfl⟩
    have ei : ∀ i, intU (.int i) = some (.int i) := fun _ => rfl
    have m0 : modU (.int (0 + (j : Int))) (.int 1) = some (.int 0) := by
      rw [modU_i (by decide) (by decide), Int.fmod_eq_emod_of_nonneg _ (by decide), Int.emod_one]
    have m1 : mulU (.int (ms.getD j 0)) (.int (0 + (j : Int) + 2)) = some (.int (ms.getD j 0 * (0 + (j : Int) + 2))) := mulU_i (mulC_r (small63_of (by omega)))
    have e1 : un2 (.tup [.int (0 + (j : Int)), .int (ms.getD j 0)]) = some (.int (0 + (j : Int)), .int (ms.getD j 0)) := rfl
    have e2 : ixU (.lst [.int c]) (.int 0) = some (.int c) := rfl
    have e3 : ∀ v, setU [.int c] (.int 0) v = some [v] := fun _ => rfl
    simp only [bnd_some, lb__law_cells_1, e1, ei, m0, e2, addU_i, m1, e3]
  refine ⟨c, ?_⟩
  have ai : asInt (.int 1) = some (some 1) := rfl
  have ai2 : asInt (.int 63) = some (some 63) := rfl
  simp only [bnd_some] at h0 h2
  simp only [u__law_cells, bnd_some, ai, ai2, h0, h1]
  rw [show enumSeq (.lst (ms.map U.int)) = some (enumU 0 (ms.map U.int)) from rfl]
  simp only [bnd_some, h0, h2, retO]
end Rx.S
/-! the source of draws of this law -/
namespace Rx.S
open PySem PySem.Spec PyProof.Rows L2 Rx
theorem box_ok (c : Int) : ∃ xs, ul__law_box_k70 (.lst [.int c]) (.int 0) = some xs ∧ Tin 0 xs := by
  have hc : 0 ≤ Int.ofNat c.natAbs := Int.natCast_nonneg _
  have ea : absU (.int c) = some (.int (Int.ofNat c.natAbs)) := rfl
  have el : lenU (.lst [.int c]) = some (.int 1) := rfl
  have ex : ixU (.lst [.int c]) (.int 0) = some (.int c) := rfl
  have ep : powU (.int 10) (.int 18) = some (.int (10 ^ 18)) := rfl
  have eb : ∀ b, intU (.bl b) = some (.int (cond b 1 0)) := fun _ => rfl
  have ei : ∀ i, intU (.int i) = some (.int i) := fun _ => rfl
  have em : ∀ b, mulU (.int (Int.ofNat c.natAbs)) (.int (cond b 1 0)) = some (.int (Int.ofNat c.natAbs * cond b 1 0)) := fun b => mulU_i (mulC_r (by cases b <;> decide))
  have e0 : mulU (.int 39373) (.int 0) = some (.int (39373 * 0)) := rfl
  have md : modU (.int c) (.int 2305843009213693951) = some (.int (c.fmod 2305843009213693951)) := modU_i (by decide) (by decide)
  have hlt : decide ((0 : Int) < 1) = true := rfl
  unfold ul__law_box_k70
  simp only [bnd_some, el, ltP_i, hlt, cond_true, ex, ea, ep, geP_i, eb, ei, em, md, e0, addU_i]
  refine ⟨_, rfl, _, _, _, rfl, ?_, by decide, by decide⟩
  refine Int.mul_nonneg hc ?_
  cases decide ((10 : Int) ^ 18 ≤ Int.ofNat c.natAbs) <;> decide
end Rx.S

set_option maxRecDepth 1000000
namespace Rx.S
open PySem PySem.Spec PyProof.Rows L2 Rx
/-! k70: links, the pieces of a lap, checks; printed by mkP70.py -/
noncomputable def q_n1 (M e : U) : Option U := (bnd (bnd (some e) fun a109 => bnd (some (.int 1)) fun a110 => addU a109 a110) fun a113 => bnd (bnd (some (.int 2)) fun a111 => bnd (some M) fun a112 => mulU a111 a112) fun a114 => modU a113 a114)
noncomputable def q_f1 (w e : U) : Option U := (bnd (some w) fun a116 => bnd (some e) fun a117 => S.u_link_moved a116 a117)
noncomputable def q_t1 (M w e nx far : U) : Option Bool := (bnd (bnd (bnd (some far) fun a118 => S.u_is_links a118) fun a119 => bnd (some (.bl true)) fun a120 => isNotU a119 a120) fun a141 => cond a141 (some true) (bnd (bnd (bnd (some far) fun a121 => bnd (some e) fun a122 => ixU a121 a122) fun a123 => bnd (some nx) fun a124 => neU a123 a124) fun a140 => cond a140 (some true) (bnd (bnd (bnd (some far) fun a125 => bnd (some nx) fun a126 => ixU a125 a126) fun a127 => bnd (some e) fun a128 => neU a127 a128) fun a139 => cond a139 (some true) (bnd (bnd (some far) fun a130 => bnd (some w) fun a131 => bnd (eqU a130 a131) fun a129 => some (.bl a129)) fun a137 => bnd (bnd (bnd (some w) fun a132 => bnd (some e) fun a133 => ixU a132 a133) fun a135 => bnd (some nx) fun a136 => bnd (eqU a135 a136) fun a134 => some (.bl a134)) fun a138 => neU a137 a138))))
noncomputable def q_t2 (M w st : U) : Option Bool := (bnd (bnd (bnd (bnd (some w) fun a193 => bnd (some st) fun a194 => S.u_links_turned a193 a194) fun a197 => bnd (bnd (some (.int 0)) fun a195 => bnd (some st) fun a196 => subU a195 a196) fun a198 => S.u_links_turned a197 a198) fun a199 => bnd (some w) fun a200 => neU a199 a200) fun a212 => cond a212 (some true) (bnd (bnd (bnd (bnd (some w) fun a201 => S.u_links_mirrored a201) fun a202 => S.u_links_mirrored a202) fun a203 => bnd (some w) fun a204 => neU a203 a204) fun a211 => cond a211 (some true) (bnd (bnd (some w) fun a207 => bnd (bnd (some (.int 2)) fun a205 => bnd (some M) fun a206 => mulU a205 a206) fun a208 => S.u_links_turned a207 a208) fun a209 => bnd (some w) fun a210 => neU a209 a210)))
noncomputable def q_t3 (M w e far : U) : Option Bool := (bnd (bnd (bnd (bnd (some w) fun a215 => S.u_links_mirrored a215) fun a216 => S.u_link_bits a216) fun a226 => bnd (bnd (bnd (bnd (bnd (bnd (bnd (some w) fun a218 => S.u_link_bits a218) revU) seqU) fun a219 => bnd ((mapU fun x222 => bnd (some x222) fun q221 => (bnd (some (.int 1)) fun a223 => bnd (some q221) fun a224 => subU a223 a224)) a219) len6) fun a225 => some (.lst a225)) tupleU) fun a227 => neU a226 a227) fun a242 => cond a242 (some true) (bnd (bnd (bnd (some w) fun a228 => bnd (some (.int 1)) fun a229 => S.u_links_turned a228 a229) fun a236 => bnd (bnd (bnd (some e) fun a230 => bnd (some (.int 1)) fun a231 => addU a230 a231) fun a234 => bnd (bnd (some (.int 2)) fun a232 => bnd (some M) fun a233 => mulU a232 a233) fun a235 => modU a234 a235) fun a237 => S.u_link_moved a236 a237) fun a240 => bnd (bnd (some far) fun a238 => bnd (some (.int 1)) fun a239 => S.u_links_turned a238 a239) fun a241 => neU a240 a241))
noncomputable def q_s4 (M e nx : U) : Option (Fw Unit (List U)) := (bnd (bnd (some M) fun a246 => bnd (some (.int 1)) fun a247 => gtP a246 a247) fun a248 => cond a248 (bnd (bnd (bnd (bnd (bnd (some M) fun a251 => S.u_all_links a251) seqU) fun a252 => bnd ((filU fun x255 => bnd (some x255) fun q254 => bnd (bnd (bnd (some q254) fun a256 => bnd (some e) fun a257 => ixU a256 a257) fun a258 => bnd (some nx) fun a259 => eqU a258 a259) fun a260 => cond a260 (bnd (some q254) fun a261 => some (some a261)) (some none)) a252) len6) fun a262 => some (.lst a262)) fun v11_249 => (bnd (bnd (bnd (bnd (some v11_249) lenU) fun a266 => bnd (bnd (bnd (some M) fun a263 => bnd (some (.int 1)) fun a264 => subU a263 a264) fun a265 => S.u_how_many_links a265) fun a267 => neU a266 a267) fun a280 => cond a280 (some true) (bnd (bnd (bnd (bnd (bnd (bnd (bnd (some M) fun a269 => S.u_all_links a269) seqU) fun a270 => bnd ((mapU fun x273 => bnd (some x273) fun q272 => (bnd (some q272) fun a274 => bnd (some e) fun a275 => S.u_link_moved a274 a275)) a270) len6) fun a276 => some (.lst a276)) sortSetL) fun a277 => some (.lst a277)) fun a278 => bnd (some v11_249) fun a279 => neU a278 a279)) fun a281 => cond a281 (bnd (some (.bl false)) fun a282 => some (.rt a282 [])) (some (.nx ())))) (some (.nx ())))
noncomputable def q_t5 (M w : U) : Option Bool := (bnd (bnd (bnd (bnd (bnd (bnd (some w) fun a284 => S.u_links_beside a284) enumSeq) fun a285 => bnd ((filU fun x288 => bnd (un2 x288) fun q287 => bnd (bnd (some q287.2) fun a289 => bnd (some w) fun a290 => eqU a289 a290) fun a291 => cond a291 (bnd (some q287.1) fun a292 => some (some a292)) (some none)) a285) len6) fun a293 => some (.lst a293)) lenU) fun a314 => bnd (bnd (bnd (bnd (bnd (bnd (some (.int 2)) fun a294 => bnd (some M) fun a295 => mulU a294 a295) fun a296 => bnd (inte a296) fun a296j => ranTo 0 a296j) fun a297 => bnd ((filU fun x300 => bnd (some x300) fun q299 => bnd (bnd (bnd (some w) fun a301 => bnd (some q299) fun a302 => ixU a301 a302) fun a309 => bnd (bnd (bnd (some q299) fun a303 => bnd (some (.int 1)) fun a304 => addU a303 a304) fun a307 => bnd (bnd (some (.int 2)) fun a305 => bnd (some M) fun a306 => mulU a305 a306) fun a308 => modU a307 a308) fun a310 => eqU a309 a310) fun a311 => cond a311 (bnd (some q299) fun a312 => some (some a312)) (some none)) a297) len6) fun a313 => some (.lst a313)) lenU) fun a315 => neU a314 a315)
noncomputable def q_n6 (M : U) : Option (U × U) := (bnd (bnd (some M) fun a319 => S.u_nested_links a319) fun a321 => bnd (bnd (some M) fun a320 => S.u_short_links a320) fun a322 => some (a321, a322))
noncomputable def q_t6 (M : U) (ns : U × U) : Option Bool := (bnd (bnd (bnd (some ns.1) fun a323 => S.u_links_mirrored a323) fun a324 => bnd (some ns.1) fun a325 => neU a324 a325) fun a339 => cond a339 (some true) (bnd (bnd (bnd (some ns.2) fun a326 => bnd (some (.int 2)) fun a327 => S.u_links_turned a326 a327) fun a328 => bnd (some ns.2) fun a329 => neU a328 a329) fun a338 => cond a338 (some true) (bnd (bnd (bnd (some ns.2) fun a330 => S.u_links_mirrored a330) fun a331 => bnd (some ns.2) fun a332 => neU a331 a332) fun a337 => cond a337 (some true) (bnd (bnd (some ns.1) fun a333 => bnd (some M) fun a334 => S.u_links_turned a333 a334) fun a335 => bnd (some ns.1) fun a336 => neU a335 a336))))
noncomputable def q_t1b (M w e nx far : U) : Option Bool := (bnd (bnd (bnd (some far) fun a121 => bnd (some e) fun a122 => ixU a121 a122) fun a123 => bnd (some nx) fun a124 => neU a123 a124) fun a140 => cond a140 (some true) (bnd (bnd (bnd (some far) fun a125 => bnd (some nx) fun a126 => ixU a125 a126) fun a127 => bnd (some e) fun a128 => neU a127 a128) fun a139 => cond a139 (some true) (bnd (bnd (some far) fun a130 => bnd (some w) fun a131 => bnd (eqU a130 a131) fun a129 => some (.bl a129)) fun a137 => bnd (bnd (bnd (some w) fun a132 => bnd (some e) fun a133 => ixU a132 a133) fun a135 => bnd (some nx) fun a136 => bnd (eqU a135 a136) fun a134 => some (.bl a134)) fun a138 => neU a137 a138)))
noncomputable def q_t2b (M w : U) : Option Bool := (bnd (bnd (bnd (bnd (some w) fun a201 => S.u_links_mirrored a201) fun a202 => S.u_links_mirrored a202) fun a203 => bnd (some w) fun a204 => neU a203 a204) fun a211 => cond a211 (some true) (bnd (bnd (some w) fun a207 => bnd (bnd (some (.int 2)) fun a205 => bnd (some M) fun a206 => mulU a205 a206) fun a208 => S.u_links_turned a207 a208) fun a209 => bnd (some w) fun a210 => neU a209 a210))
noncomputable def q_t3a (w : U) : Option Bool := (bnd (bnd (bnd (some w) fun a215 => S.u_links_mirrored a215) fun a216 => S.u_link_bits a216) fun a226 => bnd (bnd (bnd (bnd (bnd (bnd (bnd (some w) fun a218 => S.u_link_bits a218) revU) seqU) fun a219 => bnd ((mapU fun x222 => bnd (some x222) fun q221 => (bnd (some (.int 1)) fun a223 => bnd (some q221) fun a224 => subU a223 a224)) a219) len6) fun a225 => some (.lst a225)) tupleU) fun a227 => neU a226 a227)
noncomputable def q_sh (T : List U) (e nx : U) : Option U := (bnd (bnd (some T) fun a252 => bnd ((filU fun x255 => bnd (some x255) fun q254 => bnd (bnd (bnd (some q254) fun a256 => bnd (some e) fun a257 => ixU a256 a257) fun a258 => bnd (some nx) fun a259 => eqU a258 a259) fun a260 => cond a260 (bnd (some q254) fun a261 => some (some a261)) (some none)) a252) len6) fun a262 => some (.lst a262))
noncomputable def q_st (st : U) : Option Bool := (bnd (bnd (bnd (bnd (some st) fun a3 => bnd (bnd (some (.int 1000)) negU) fun a4 => S.u_is_from a3 a4) truU) fun a5 => some (!a5)) fun a8 => cond a8 (some true) (bnd (some st) fun a6 => bnd (some (.int 1000)) fun a7 => gtP a6 a7))
noncomputable def q_sa (M v : U) : Option Bool := (bnd (bnd (some v) lenU) fun a266 => bnd (bnd (bnd (some M) fun a263 => bnd (some (.int 1)) fun a264 => subU a263 a264) fun a265 => S.u_how_many_links a265) fun a267 => neU a266 a267)
def sameIs : List U → List U → Bool
  | [], [] => true
  | .int i :: a, .int j :: b => cond (eqI i j) (sameIs a b) false
  | _, _ => false
def sameT : U → U → Bool
  | .tup a, .tup b => sameIs a b
  | _, _ => false
theorem sameIs_eq : ∀ {a b : List U}, sameIs a b = true → a = b
  | [], [], _ => rfl
  | .int i :: a, .int j :: b, h => by
    have h' : cond (eqI i j) (sameIs a b) false = true := h
    rw [eqI_eq] at h'
    by_cases e : i = j
    · subst e
      rw [beq_self_eq_true, cond_true] at h'
      rw [sameIs_eq h']
    · rw [beq_eq_false_iff_ne.mpr e] at h'
      cases h'
  | [], _ :: _, h => by cases h
  | .int _ :: _, [], h => by cases h
  | .non :: _, _, h => by cases h
  | .bl _ :: _, _, h => by cases h
  | .str _ :: _, _, h => by cases h
  | .ty _ :: _, _, h => by cases h
  | .tup _ :: _, _, h => by cases h
  | .lst _ :: _, _, h => by cases h
  | .frz _ :: _, _, h => by cases h
  | .int _ :: _, .non :: _, h => by cases h
  | .int _ :: _, .bl _ :: _, h => by cases h
  | .int _ :: _, .str _ :: _, h => by cases h
  | .int _ :: _, .ty _ :: _, h => by cases h
  | .int _ :: _, .tup _ :: _, h => by cases h
  | .int _ :: _, .lst _ :: _, h => by cases h
  | .int _ :: _, .frz _ :: _, h => by cases h
theorem sameT_eq {a b : U} (h : sameT a b = true) : a = b := by
  cases a with
  | tup a =>
    cases b with
    | tup b => rw [sameIs_eq h]
    | _ => cases h
  | _ => cases h
def inT (r : U) : List U → Bool
  | [] => false
  | t :: ts => cond (sameT r t) true (inT r ts)
theorem inT_mem {r : U} : ∀ {ts : List U}, inT r ts = true → r ∈ ts
  | t :: ts, h => by
    have h' : cond (sameT r t) true (inT r ts) = true := h
    cases e : sameT r t with
    | true => rw [sameT_eq e]; exact List.mem_cons_self
    | false =>
      rw [e] at h'
      exact List.mem_cons_of_mem _ (inT_mem h')
  | [], h => by cases h
def isF : Option Bool → Bool
  | some false => true
  | _ => false
theorem isF_ok {o : Option Bool} (h : isF o = true) : o = some false := by
  cases o with
  | none => cases h
  | some b =>
    cases b with
    | false => rfl
    | true => cases h
def isN {C : Type} : Option (Fw Unit C) → Bool
  | some (.nx _) => true
  | _ => false
theorem isN_ok {C : Type} {o : Option (Fw Unit C)} (h : isN o = true) : o = some (.nx ()) := by
  cases o with
  | none => cases h
  | some b =>
    cases b with
    | nx _ => rfl
    | _ => cases h
def opB {α : Type} (o : Option α) (k : α → Bool) : Bool := match o with
  | some a => k a
  | none => false
theorem opB_ok {α : Type} {o : Option α} {k : α → Bool} (h : opB o k = true) : ∃ a, o = some a ∧ k a = true := by
  cases o with
  | none => cases h
  | some a => exact ⟨a, rfl, h⟩
def an (a b : Bool) : Bool := cond a b false
theorem an_ok {a b : Bool} (h : an a b = true) : a = true ∧ b = true := by
  cases a with
  | true => exact ⟨rfl, h⟩
  | false => cases h
def alU (k : U → Bool) : List U → Bool
  | [] => true
  | x :: xs => cond (k x) (alU k xs) false
theorem alU_ok {k : U → Bool} : ∀ {xs : List U}, alU k xs = true → ∀ x ∈ xs, k x = true
  | x :: xs, h, y, hy => by
    have h' : cond (k x) (alU k xs) false = true := h
    cases e : k x with
    | true =>
      rw [e] at h'
      rcases List.mem_cons.mp hy with rfl | hy
      · exact e
      · exact alU_ok h' y hy
    | false =>
      rw [e] at h'
      cases h'
  | [], _, _, hy => by cases hy
def sameI : U → U → Bool
  | .int i, .int j => eqI i j
  | _, _ => false
theorem sameI_eq {a b : U} (h : sameI a b = true) : a = b := by
  cases a with
  | int i =>
    cases b with
    | int j =>
      have h' : eqI i j = true := h
      rw [eqI_eq] at h'
      rw [eq_of_beq h']
    | _ => cases h
  | _ => cases h
def inI (r : U) : List U → Bool
  | [] => false
  | t :: ts => cond (sameI r t) true (inI r ts)
theorem inI_mem {r : U} : ∀ {ts : List U}, inI r ts = true → r ∈ ts
  | t :: ts, h => by
    have h' : cond (sameI r t) true (inI r ts) = true := h
    cases e : sameI r t with
    | true => rw [sameI_eq e]; exact List.mem_cons_self
    | false =>
      rw [e] at h'
      exact List.mem_cons_of_mem _ (inI_mem h')
  | [], h => by cases h
def isTrue1 : Option U → Bool
  | some (.bl true) => true
  | _ => false
theorem isTrue1_ok {o : Option U} (h : isTrue1 o = true) : o = some (.bl true) := by
  cases o with
  | none => cases h
  | some u =>
    cases u with
    | bl b =>
      cases b with
      | true => rfl
      | false => cases h
    | _ => cases h
/-- own and an end -/
noncomputable def ckE (T E : List U) (M w e : U) : Bool := opB (q_n1 M e) fun nx => an (inI nx E) (opB (u_moved_in w e) fun far => an (inT far T) (an (isF (q_t1b M w e nx far)) (opB (u_turned_in w (.int 1)) fun r => opB (u_moved_in r nx) fun x => opB (u_turned_in far (.int 1)) fun y => sameT x y)))
/-- own and steps -/
noncomputable def ckS (T Z : List U) (w st : U) : Bool := opB (u_turned_in w st) fun r => an (inT r T) (opB (subU (.int 0) st) fun x => an (inI x Z) (opB (u_turned_in r x) fun y => sameT y w))
/-- own alone -/
noncomputable def ckO (T : List U) (M N w : U) : Bool := an (opB (u_sure_links w) fun x => sameT x w) (an (isTrue1 (u_is_links w)) (an (opB (lenU w) fun x => sameI x N) (opB (u_links_mirrored w) fun r => an (inT r T) (an (isN (lb_law_k70_1 ([], M) w ())) (an (isF (q_t5 M w)) (an (isF (q_t2b M w)) (an (isF (q_t3a w)) (isF (neU w w)))))))))
/-- an end alone -/
noncomputable def ckB (T : List U) (M N e : U) : Bool := an (isTrue1 (u_is_below e N)) (opB (q_n1 M e) fun nx => opB (gtP M (.int 1)) fun b => cond b (opB (q_sh T e nx) fun v => an (isF (q_sa M v)) (opB (mapU (fun x => u_moved_in x e) T) fun ys => an (Nat.ble ys.length 1000000) (opB (sortSetL (.lst ys)) fun zs => isF (neU (.lst zs) v)))) true)
noncomputable def ckM (M : U) : Bool := opB (q_n6 M) fun ns => isF (q_t6 M ns)
def g1_0 : U := .tup [.int 1, .int 0]
def T1 : List U := [g1_0]
def E1 : List U := [.int 0, .int 1]
def Z1 : List U := [.int (-2), .int (-1), .int (0), .int (1), .int (2)]
def g2_0 : U := .tup [.int 1, .int 0, .int 3, .int 2]
def g2_1 : U := .tup [.int 3, .int 2, .int 1, .int 0]
def T2 : List U := [g2_0, g2_1]
def E2 : List U := [.int 0, .int 1, .int 2, .int 3]
def Z2 : List U := [.int (-4), .int (-3), .int (-2), .int (-1), .int (0), .int (1), .int (2), .int (3), .int (4)]
def g3_0 : U := .tup [.int 1, .int 0, .int 3, .int 2, .int 5, .int 4]
def g3_1 : U := .tup [.int 1, .int 0, .int 5, .int 4, .int 3, .int 2]
def g3_2 : U := .tup [.int 3, .int 2, .int 1, .int 0, .int 5, .int 4]
def g3_3 : U := .tup [.int 5, .int 2, .int 1, .int 4, .int 3, .int 0]
def g3_4 : U := .tup [.int 5, .int 4, .int 3, .int 2, .int 1, .int 0]
def T3 : List U := [g3_0, g3_1, g3_2, g3_3, g3_4]
def E3 : List U := [.int 0, .int 1, .int 2, .int 3, .int 4, .int 5]
def Z3 : List U := [.int (-6), .int (-5), .int (-4), .int (-3), .int (-2), .int (-1), .int (0), .int (1), .int (2), .int (3), .int (4), .int (5), .int (6)]
def g4_0 : U := .tup [.int 1, .int 0, .int 3, .int 2, .int 5, .int 4, .int 7, .int 6]
def g4_1 : U := .tup [.int 1, .int 0, .int 3, .int 2, .int 7, .int 6, .int 5, .int 4]
def g4_2 : U := .tup [.int 1, .int 0, .int 5, .int 4, .int 3, .int 2, .int 7, .int 6]
def g4_3 : U := .tup [.int 1, .int 0, .int 7, .int 4, .int 3, .int 6, .int 5, .int 2]
def g4_4 : U := .tup [.int 1, .int 0, .int 7, .int 6, .int 5, .int 4, .int 3, .int 2]
def g4_5 : U := .tup [.int 3, .int 2, .int 1, .int 0, .int 5, .int 4, .int 7, .int 6]
def g4_6 : U := .tup [.int 3, .int 2, .int 1, .int 0, .int 7, .int 6, .int 5, .int 4]
def g4_7 : U := .tup [.int 5, .int 2, .int 1, .int 4, .int 3, .int 0, .int 7, .int 6]
def g4_8 : U := .tup [.int 5, .int 4, .int 3, .int 2, .int 1, .int 0, .int 7, .int 6]
def g4_9 : U := .tup [.int 7, .int 2, .int 1, .int 4, .int 3, .int 6, .int 5, .int 0]
def g4_10 : U := .tup [.int 7, .int 2, .int 1, .int 6, .int 5, .int 4, .int 3, .int 0]
def g4_11 : U := .tup [.int 7, .int 4, .int 3, .int 2, .int 1, .int 6, .int 5, .int 0]
def g4_12 : U := .tup [.int 7, .int 6, .int 3, .int 2, .int 5, .int 4, .int 1, .int 0]
def g4_13 : U := .tup [.int 7, .int 6, .int 5, .int 4, .int 3, .int 2, .int 1, .int 0]
def T4 : List U := [g4_0, g4_1, g4_2, g4_3, g4_4, g4_5, g4_6, g4_7, g4_8, g4_9, g4_10, g4_11, g4_12, g4_13]
def E4 : List U := [.int 0, .int 1, .int 2, .int 3, .int 4, .int 5, .int 6, .int 7]
def Z4 : List U := [.int (-8), .int (-7), .int (-6), .int (-5), .int (-4), .int (-3), .int (-2), .int (-1), .int (0), .int (1), .int (2), .int (3), .int (4), .int (5), .int (6), .int (7), .int (8)]
def g5_0 : U := .tup [.int 1, .int 0, .int 3, .int 2, .int 5, .int 4, .int 7, .int 6, .int 9, .int 8]
def g5_1 : U := .tup [.int 1, .int 0, .int 3, .int 2, .int 5, .int 4, .int 9, .int 8, .int 7, .int 6]
def g5_2 : U := .tup [.int 1, .int 0, .int 3, .int 2, .int 7, .int 6, .int 5, .int 4, .int 9, .int 8]
def g5_3 : U := .tup [.int 1, .int 0, .int 3, .int 2, .int 9, .int 6, .int 5, .int 8, .int 7, .int 4]
def g5_4 : U := .tup [.int 1, .int 0, .int 3, .int 2, .int 9, .int 8, .int 7, .int 6, .int 5, .int 4]
def g5_5 : U := .tup [.int 1, .int 0, .int 5, .int 4, .int 3, .int 2, .int 7, .int 6, .int 9, .int 8]
def g5_6 : U := .tup [.int 1, .int 0, .int 5, .int 4, .int 3, .int 2, .int 9, .int 8, .int 7, .int 6]
def g5_7 : U := .tup [.int 1, .int 0, .int 7, .int 4, .int 3, .int 6, .int 5, .int 2, .int 9, .int 8]
def g5_8 : U := .tup [.int 1, .int 0, .int 7, .int 6, .int 5, .int 4, .int 3, .int 2, .int 9, .int 8]
def g5_9 : U := .tup [.int 1, .int 0, .int 9, .int 4, .int 3, .int 6, .int 5, .int 8, .int 7, .int 2]
def g5_10 : U := .tup [.int 1, .int 0, .int 9, .int 4, .int 3, .int 8, .int 7, .int 6, .int 5, .int 2]
def g5_11 : U := .tup [.int 1, .int 0, .int 9, .int 6, .int 5, .int 4, .int 3, .int 8, .int 7, .int 2]
def g5_12 : U := .tup [.int 1, .int 0, .int 9, .int 8, .int 5, .int 4, .int 7, .int 6, .int 3, .int 2]
def g5_13 : U := .tup [.int 1, .int 0, .int 9, .int 8, .int 7, .int 6, .int 5, .int 4, .int 3, .int 2]
def g5_14 : U := .tup [.int 3, .int 2, .int 1, .int 0, .int 5, .int 4, .int 7, .int 6, .int 9, .int 8]
def g5_15 : U := .tup [.int 3, .int 2, .int 1, .int 0, .int 5, .int 4, .int 9, .int 8, .int 7, .int 6]
def g5_16 : U := .tup [.int 3, .int 2, .int 1, .int 0, .int 7, .int 6, .int 5, .int 4, .int 9, .int 8]
def g5_17 : U := .tup [.int 3, .int 2, .int 1, .int 0, .int 9, .int 6, .int 5, .int 8, .int 7, .int 4]
def g5_18 : U := .tup [.int 3, .int 2, .int 1, .int 0, .int 9, .int 8, .int 7, .int 6, .int 5, .int 4]
def g5_19 : U := .tup [.int 5, .int 2, .int 1, .int 4, .int 3, .int 0, .int 7, .int 6, .int 9, .int 8]
def g5_20 : U := .tup [.int 5, .int 2, .int 1, .int 4, .int 3, .int 0, .int 9, .int 8, .int 7, .int 6]
def g5_21 : U := .tup [.int 5, .int 4, .int 3, .int 2, .int 1, .int 0, .int 7, .int 6, .int 9, .int 8]
def g5_22 : U := .tup [.int 5, .int 4, .int 3, .int 2, .int 1, .int 0, .int 9, .int 8, .int 7, .int 6]
def g5_23 : U := .tup [.int 7, .int 2, .int 1, .int 4, .int 3, .int 6, .int 5, .int 0, .int 9, .int 8]
def g5_24 : U := .tup [.int 7, .int 2, .int 1, .int 6, .int 5, .int 4, .int 3, .int 0, .int 9, .int 8]
def g5_25 : U := .tup [.int 7, .int 4, .int 3, .int 2, .int 1, .int 6, .int 5, .int 0, .int 9, .int 8]
def g5_26 : U := .tup [.int 7, .int 6, .int 3, .int 2, .int 5, .int 4, .int 1, .int 0, .int 9, .int 8]
def g5_27 : U := .tup [.int 7, .int 6, .int 5, .int 4, .int 3, .int 2, .int 1, .int 0, .int 9, .int 8]
def g5_28 : U := .tup [.int 9, .int 2, .int 1, .int 4, .int 3, .int 6, .int 5, .int 8, .int 7, .int 0]
def g5_29 : U := .tup [.int 9, .int 2, .int 1, .int 4, .int 3, .int 8, .int 7, .int 6, .int 5, .int 0]
def g5_30 : U := .tup [.int 9, .int 2, .int 1, .int 6, .int 5, .int 4, .int 3, .int 8, .int 7, .int 0]
def g5_31 : U := .tup [.int 9, .int 2, .int 1, .int 8, .int 5, .int 4, .int 7, .int 6, .int 3, .int 0]
def g5_32 : U := .tup [.int 9, .int 2, .int 1, .int 8, .int 7, .int 6, .int 5, .int 4, .int 3, .int 0]
def g5_33 : U := .tup [.int 9, .int 4, .int 3, .int 2, .int 1, .int 6, .int 5, .int 8, .int 7, .int 0]
def g5_34 : U := .tup [.int 9, .int 4, .int 3, .int 2, .int 1, .int 8, .int 7, .int 6, .int 5, .int 0]
def g5_35 : U := .tup [.int 9, .int 6, .int 3, .int 2, .int 5, .int 4, .int 1, .int 8, .int 7, .int 0]
def g5_36 : U := .tup [.int 9, .int 6, .int 5, .int 4, .int 3, .int 2, .int 1, .int 8, .int 7, .int 0]
def g5_37 : U := .tup [.int 9, .int 8, .int 3, .int 2, .int 5, .int 4, .int 7, .int 6, .int 1, .int 0]
def g5_38 : U := .tup [.int 9, .int 8, .int 3, .int 2, .int 7, .int 6, .int 5, .int 4, .int 1, .int 0]
def g5_39 : U := .tup [.int 9, .int 8, .int 5, .int 4, .int 3, .int 2, .int 7, .int 6, .int 1, .int 0]
def g5_40 : U := .tup [.int 9, .int 8, .int 7, .int 4, .int 3, .int 6, .int 5, .int 2, .int 1, .int 0]
def g5_41 : U := .tup [.int 9, .int 8, .int 7, .int 6, .int 5, .int 4, .int 3, .int 2, .int 1, .int 0]
def T5 : List U := [g5_0, g5_1, g5_2, g5_3, g5_4, g5_5, g5_6, g5_7, g5_8, g5_9, g5_10, g5_11, g5_12, g5_13, g5_14, g5_15, g5_16, g5_17, g5_18, g5_19, g5_20, g5_21, g5_22, g5_23, g5_24, g5_25, g5_26, g5_27, g5_28, g5_29, g5_30, g5_31, g5_32, g5_33, g5_34, g5_35, g5_36, g5_37, g5_38, g5_39, g5_40, g5_41]
def E5 : List U := [.int 0, .int 1, .int 2, .int 3, .int 4, .int 5, .int 6, .int 7, .int 8, .int 9]
def Z5 : List U := [.int (-10), .int (-9), .int (-8), .int (-7), .int (-6), .int (-5), .int (-4), .int (-3), .int (-2), .int (-1), .int (0), .int (1), .int (2), .int (3), .int (4), .int (5), .int (6), .int (7), .int (8), .int (9), .int (10)]
def g6_0 : U := .tup [.int 1, .int 0, .int 3, .int 2, .int 5, .int 4, .int 7, .int 6, .int 9, .int 8, .int 11, .int 10]
def g6_1 : U := .tup [.int 1, .int 0, .int 3, .int 2, .int 5, .int 4, .int 7, .int 6, .int 11, .int 10, .int 9, .int 8]
def g6_2 : U := .tup [.int 1, .int 0, .int 3, .int 2, .int 5, .int 4, .int 9, .int 8, .int 7, .int 6, .int 11, .int 10]
def g6_3 : U := .tup [.int 1, .int 0, .int 3, .int 2, .int 5, .int 4, .int 11, .int 8, .int 7, .int 10, .int 9, .int 6]
def g6_4 : U := .tup [.int 1, .int 0, .int 3, .int 2, .int 5, .int 4, .int 11, .int 10, .int 9, .int 8, .int 7, .int 6]
def g6_5 : U := .tup [.int 1, .int 0, .int 3, .int 2, .int 7, .int 6, .int 5, .int 4, .int 9, .int 8, .int 11, .int 10]
def g6_6 : U := .tup [.int 1, .int 0, .int 3, .int 2, .int 7, .int 6, .int 5, .int 4, .int 11, .int 10, .int 9, .int 8]
def g6_7 : U := .tup [.int 1, .int 0, .int 3, .int 2, .int 9, .int 6, .int 5, .int 8, .int 7, .int 4, .int 11, .int 10]
def g6_8 : U := .tup [.int 1, .int 0, .int 3, .int 2, .int 9, .int 8, .int 7, .int 6, .int 5, .int 4, .int 11, .int 10]
def g6_9 : U := .tup [.int 1, .int 0, .int 3, .int 2, .int 11, .int 6, .int 5, .int 8, .int 7, .int 10, .int 9, .int 4]
def g6_10 : U := .tup [.int 1, .int 0, .int 3, .int 2, .int 11, .int 6, .int 5, .int 10, .int 9, .int 8, .int 7, .int 4]
def g6_11 : U := .tup [.int 1, .int 0, .int 3, .int 2, .int 11, .int 8, .int 7, .int 6, .int 5, .int 10, .int 9, .int 4]
def g6_12 : U := .tup [.int 1, .int 0, .int 3, .int 2, .int 11, .int 10, .int 7, .int 6, .int 9, .int 8, .int 5, .int 4]
def g6_13 : U := .tup [.int 1, .int 0, .int 3, .int 2, .int 11, .int 10, .int 9, .int 8, .int 7, .int 6, .int 5, .int 4]
def g6_14 : U := .tup [.int 1, .int 0, .int 5, .int 4, .int 3, .int 2, .int 7, .int 6, .int 9, .int 8, .int 11, .int 10]
def g6_15 : U := .tup [.int 1, .int 0, .int 5, .int 4, .int 3, .int 2, .int 7, .int 6, .int 11, .int 10, .int 9, .int 8]
def g6_16 : U := .tup [.int 1, .int 0, .int 5, .int 4, .int 3, .int 2, .int 9, .int 8, .int 7, .int 6, .int 11, .int 10]
def g6_17 : U := .tup [.int 1, .int 0, .int 5, .int 4, .int 3, .int 2, .int 11, .int 8, .int 7, .int 10, .int 9, .int 6]
def g6_18 : U := .tup [.int 1, .int 0, .int 5, .int 4, .int 3, .int 2, .int 11, .int 10, .int 9, .int 8, .int 7, .int 6]
def g6_19 : U := .tup [.int 1, .int 0, .int 7, .int 4, .int 3, .int 6, .int 5, .int 2, .int 9, .int 8, .int 11, .int 10]
def g6_20 : U := .tup [.int 1, .int 0, .int 7, .int 4, .int 3, .int 6, .int 5, .int 2, .int 11, .int 10, .int 9, .int 8]
def g6_21 : U := .tup [.int 1, .int 0, .int 7, .int 6, .int 5, .int 4, .int 3, .int 2, .int 9, .int 8, .int 11, .int 10]
def g6_22 : U := .tup [.int 1, .int 0, .int 7, .int 6, .int 5, .int 4, .int 3, .int 2, .int 11, .int 10, .int 9, .int 8]
def g6_23 : U := .tup [.int 1, .int 0, .int 9, .int 4, .int 3, .int 6, .int 5, .int 8, .int 7, .int 2, .int 11, .int 10]
def g6_24 : U := .tup [.int 1, .int 0, .int 9, .int 4, .int 3, .int 8, .int 7, .int 6, .int 5, .int 2, .int 11, .int 10]
def g6_25 : U := .tup [.int 1, .int 0, .int 9, .int 6, .int 5, .int 4, .int 3, .int 8, .int 7, .int 2, .int 11, .int 10]
def g6_26 : U := .tup [.int 1, .int 0, .int 9, .int 8, .int 5, .int 4, .int 7, .int 6, .int 3, .int 2, .int 11, .int 10]
def g6_27 : U := .tup [.int 1, .int 0, .int 9, .int 8, .int 7, .int 6, .int 5, .int 4, .int 3, .int 2, .int 11, .int 10]
def g6_28 : U := .tup [.int 1, .int 0, .int 11, .int 4, .int 3, .int 6, .int 5, .int 8, .int 7, .int 10, .int 9, .int 2]
def g6_29 : U := .tup [.int 1, .int 0, .int 11, .int 4, .int 3, .int 6, .int 5, .int 10, .int 9, .int 8, .int 7, .int 2]
def g6_30 : U := .tup [.int 1, .int 0, .int 11, .int 4, .int 3, .int 8, .int 7, .int 6, .int 5, .int 10, .int 9, .int 2]
def g6_31 : U := .tup [.int 1, .int 0, .int 11, .int 4, .int 3, .int 10, .int 7, .int 6, .int 9, .int 8, .int 5, .int 2]
def g6_32 : U := .tup [.int 1, .int 0, .int 11, .int 4, .int 3, .int 10, .int 9, .int 8, .int 7, .int 6, .int 5, .int 2]
def g6_33 : U := .tup [.int 1, .int 0, .int 11, .int 6, .int 5, .int 4, .int 3, .int 8, .int 7, .int 10, .int 9, .int 2]
def g6_34 : U := .tup [.int 1, .int 0, .int 11, .int 6, .int 5, .int 4, .int 3, .int 10, .int 9, .int 8, .int 7, .int 2]
def g6_35 : U := .tup [.int 1, .int 0, .int 11, .int 8, .int 5, .int 4, .int 7, .int 6, .int 3, .int 10, .int 9, .int 2]
def g6_36 : U := .tup [.int 1, .int 0, .int 11, .int 8, .int 7, .int 6, .int 5, .int 4, .int 3, .int 10, .int 9, .int 2]
def g6_37 : U := .tup [.int 1, .int 0, .int 11, .int 10, .int 5, .int 4, .int 7, .int 6, .int 9, .int 8, .int 3, .int 2]
def g6_38 : U := .tup [.int 1, .int 0, .int 11, .int 10, .int 5, .int 4, .int 9, .int 8, .int 7, .int 6, .int 3, .int 2]
def g6_39 : U := .tup [.int 1, .int 0, .int 11, .int 10, .int 7, .int 6, .int 5, .int 4, .int 9, .int 8, .int 3, .int 2]
def g6_40 : U := .tup [.int 1, .int 0, .int 11, .int 10, .int 9, .int 6, .int 5, .int 8, .int 7, .int 4, .int 3, .int 2]
def g6_41 : U := .tup [.int 1, .int 0, .int 11, .int 10, .int 9, .int 8, .int 7, .int 6, .int 5, .int 4, .int 3, .int 2]
def g6_42 : U := .tup [.int 3, .int 2, .int 1, .int 0, .int 5, .int 4, .int 7, .int 6, .int 9, .int 8, .int 11, .int 10]
def g6_43 : U := .tup [.int 3, .int 2, .int 1, .int 0, .int 5, .int 4, .int 7, .int 6, .int 11, .int 10, .int 9, .int 8]
def g6_44 : U := .tup [.int 3, .int 2, .int 1, .int 0, .int 5, .int 4, .int 9, .int 8, .int 7, .int 6, .int 11, .int 10]
def g6_45 : U := .tup [.int 3, .int 2, .int 1, .int 0, .int 5, .int 4, .int 11, .int 8, .int 7, .int 10, .int 9, .int 6]
def g6_46 : U := .tup [.int 3, .int 2, .int 1, .int 0, .int 5, .int 4, .int 11, .int 10, .int 9, .int 8, .int 7, .int 6]
def g6_47 : U := .tup [.int 3, .int 2, .int 1, .int 0, .int 7, .int 6, .int 5, .int 4, .int 9, .int 8, .int 11, .int 10]
def g6_48 : U := .tup [.int 3, .int 2, .int 1, .int 0, .int 7, .int 6, .int 5, .int 4, .int 11, .int 10, .int 9, .int 8]
def g6_49 : U := .tup [.int 3, .int 2, .int 1, .int 0, .int 9, .int 6, .int 5, .int 8, .int 7, .int 4, .int 11, .int 10]
def g6_50 : U := .tup [.int 3, .int 2, .int 1, .int 0, .int 9, .int 8, .int 7, .int 6, .int 5, .int 4, .int 11, .int 10]
def g6_51 : U := .tup [.int 3, .int 2, .int 1, .int 0, .int 11, .int 6, .int 5, .int 8, .int 7, .int 10, .int 9, .int 4]
def g6_52 : U := .tup [.int 3, .int 2, .int 1, .int 0, .int 11, .int 6, .int 5, .int 10, .int 9, .int 8, .int 7, .int 4]
def g6_53 : U := .tup [.int 3, .int 2, .int 1, .int 0, .int 11, .int 8, .int 7, .int 6, .int 5, .int 10, .int 9, .int 4]
def g6_54 : U := .tup [.int 3, .int 2, .int 1, .int 0, .int 11, .int 10, .int 7, .int 6, .int 9, .int 8, .int 5, .int 4]
def g6_55 : U := .tup [.int 3, .int 2, .int 1, .int 0, .int 11, .int 10, .int 9, .int 8, .int 7, .int 6, .int 5, .int 4]
def g6_56 : U := .tup [.int 5, .int 2, .int 1, .int 4, .int 3, .int 0, .int 7, .int 6, .int 9, .int 8, .int 11, .int 10]
def g6_57 : U := .tup [.int 5, .int 2, .int 1, .int 4, .int 3, .int 0, .int 7, .int 6, .int 11, .int 10, .int 9, .int 8]
def g6_58 : U := .tup [.int 5, .int 2, .int 1, .int 4, .int 3, .int 0, .int 9, .int 8, .int 7, .int 6, .int 11, .int 10]
def g6_59 : U := .tup [.int 5, .int 2, .int 1, .int 4, .int 3, .int 0, .int 11, .int 8, .int 7, .int 10, .int 9, .int 6]
def g6_60 : U := .tup [.int 5, .int 2, .int 1, .int 4, .int 3, .int 0, .int 11, .int 10, .int 9, .int 8, .int 7, .int 6]
def g6_61 : U := .tup [.int 5, .int 4, .int 3, .int 2, .int 1, .int 0, .int 7, .int 6, .int 9, .int 8, .int 11, .int 10]
def g6_62 : U := .tup [.int 5, .int 4, .int 3, .int 2, .int 1, .int 0, .int 7, .int 6, .int 11, .int 10, .int 9, .int 8]
def g6_63 : U := .tup [.int 5, .int 4, .int 3, .int 2, .int 1, .int 0, .int 9, .int 8, .int 7, .int 6, .int 11, .int 10]
def g6_64 : U := .tup [.int 5, .int 4, .int 3, .int 2, .int 1, .int 0, .int 11, .int 8, .int 7, .int 10, .int 9, .int 6]
def g6_65 : U := .tup [.int 5, .int 4, .int 3, .int 2, .int 1, .int 0, .int 11, .int 10, .int 9, .int 8, .int 7, .int 6]
def g6_66 : U := .tup [.int 7, .int 2, .int 1, .int 4, .int 3, .int 6, .int 5, .int 0, .int 9, .int 8, .int 11, .int 10]
def g6_67 : U := .tup [.int 7, .int 2, .int 1, .int 4, .int 3, .int 6, .int 5, .int 0, .int 11, .int 10, .int 9, .int 8]
def g6_68 : U := .tup [.int 7, .int 2, .int 1, .int 6, .int 5, .int 4, .int 3, .int 0, .int 9, .int 8, .int 11, .int 10]
def g6_69 : U := .tup [.int 7, .int 2, .int 1, .int 6, .int 5, .int 4, .int 3, .int 0, .int 11, .int 10, .int 9, .int 8]
def g6_70 : U := .tup [.int 7, .int 4, .int 3, .int 2, .int 1, .int 6, .int 5, .int 0, .int 9, .int 8, .int 11, .int 10]
def g6_71 : U := .tup [.int 7, .int 4, .int 3, .int 2, .int 1, .int 6, .int 5, .int 0, .int 11, .int 10, .int 9, .int 8]
def g6_72 : U := .tup [.int 7, .int 6, .int 3, .int 2, .int 5, .int 4, .int 1, .int 0, .int 9, .int 8, .int 11, .int 10]
def g6_73 : U := .tup [.int 7, .int 6, .int 3, .int 2, .int 5, .int 4, .int 1, .int 0, .int 11, .int 10, .int 9, .int 8]
def g6_74 : U := .tup [.int 7, .int 6, .int 5, .int 4, .int 3, .int 2, .int 1, .int 0, .int 9, .int 8, .int 11, .int 10]
def g6_75 : U := .tup [.int 7, .int 6, .int 5, .int 4, .int 3, .int 2, .int 1, .int 0, .int 11, .int 10, .int 9, .int 8]
def g6_76 : U := .tup [.int 9, .int 2, .int 1, .int 4, .int 3, .int 6, .int 5, .int 8, .int 7, .int 0, .int 11, .int 10]
def g6_77 : U := .tup [.int 9, .int 2, .int 1, .int 4, .int 3, .int 8, .int 7, .int 6, .int 5, .int 0, .int 11, .int 10]
def g6_78 : U := .tup [.int 9, .int 2, .int 1, .int 6, .int 5, .int 4, .int 3, .int 8, .int 7, .int 0, .int 11, .int 10]
def g6_79 : U := .tup [.int 9, .int 2, .int 1, .int 8, .int 5, .int 4, .int 7, .int 6, .int 3, .int 0, .int 11, .int 10]
def g6_80 : U := .tup [.int 9, .int 2, .int 1, .int 8, .int 7, .int 6, .int 5, .int 4, .int 3, .int 0, .int 11, .int 10]
def g6_81 : U := .tup [.int 9, .int 4, .int 3, .int 2, .int 1, .int 6, .int 5, .int 8, .int 7, .int 0, .int 11, .int 10]
def g6_82 : U := .tup [.int 9, .int 4, .int 3, .int 2, .int 1, .int 8, .int 7, .int 6, .int 5, .int 0, .int 11, .int 10]
def g6_83 : U := .tup [.int 9, .int 6, .int 3, .int 2, .int 5, .int 4, .int 1, .int 8, .int 7, .int 0, .int 11, .int 10]
def g6_84 : U := .tup [.int 9, .int 6, .int 5, .int 4, .int 3, .int 2, .int 1, .int 8, .int 7, .int 0, .int 11, .int 10]
def g6_85 : U := .tup [.int 9, .int 8, .int 3, .int 2, .int 5, .int 4, .int 7, .int 6, .int 1, .int 0, .int 11, .int 10]
def g6_86 : U := .tup [.int 9, .int 8, .int 3, .int 2, .int 7, .int 6, .int 5, .int 4, .int 1, .int 0, .int 11, .int 10]
def g6_87 : U := .tup [.int 9, .int 8, .int 5, .int 4, .int 3, .int 2, .int 7, .int 6, .int 1, .int 0, .int 11, .int 10]
def g6_88 : U := .tup [.int 9, .int 8, .int 7, .int 4, .int 3, .int 6, .int 5, .int 2, .int 1, .int 0, .int 11, .int 10]
def g6_89 : U := .tup [.int 9, .int 8, .int 7, .int 6, .int 5, .int 4, .int 3, .int 2, .int 1, .int 0, .int 11, .int 10]
def g6_90 : U := .tup [.int 11, .int 2, .int 1, .int 4, .int 3, .int 6, .int 5, .int 8, .int 7, .int 10, .int 9, .int 0]
def g6_91 : U := .tup [.int 11, .int 2, .int 1, .int 4, .int 3, .int 6, .int 5, .int 10, .int 9, .int 8, .int 7, .int 0]
def g6_92 : U := .tup [.int 11, .int 2, .int 1, .int 4, .int 3, .int 8, .int 7, .int 6, .int 5, .int 10, .int 9, .int 0]
def g6_93 : U := .tup [.int 11, .int 2, .int 1, .int 4, .int 3, .int 10, .int 7, .int 6, .int 9, .int 8, .int 5, .int 0]
def g6_94 : U := .tup [.int 11, .int 2, .int 1, .int 4, .int 3, .int 10, .int 9, .int 8, .int 7, .int 6, .int 5, .int 0]
def g6_95 : U := .tup [.int 11, .int 2, .int 1, .int 6, .int 5, .int 4, .int 3, .int 8, .int 7, .int 10, .int 9, .int 0]
def g6_96 : U := .tup [.int 11, .int 2, .int 1, .int 6, .int 5, .int 4, .int 3, .int 10, .int 9, .int 8, .int 7, .int 0]
def g6_97 : U := .tup [.int 11, .int 2, .int 1, .int 8, .int 5, .int 4, .int 7, .int 6, .int 3, .int 10, .int 9, .int 0]
def g6_98 : U := .tup [.int 11, .int 2, .int 1, .int 8, .int 7, .int 6, .int 5, .int 4, .int 3, .int 10, .int 9, .int 0]
def g6_99 : U := .tup [.int 11, .int 2, .int 1, .int 10, .int 5, .int 4, .int 7, .int 6, .int 9, .int 8, .int 3, .int 0]
def g6_100 : U := .tup [.int 11, .int 2, .int 1, .int 10, .int 5, .int 4, .int 9, .int 8, .int 7, .int 6, .int 3, .int 0]
def g6_101 : U := .tup [.int 11, .int 2, .int 1, .int 10, .int 7, .int 6, .int 5, .int 4, .int 9, .int 8, .int 3, .int 0]
def g6_102 : U := .tup [.int 11, .int 2, .int 1, .int 10, .int 9, .int 6, .int 5, .int 8, .int 7, .int 4, .int 3, .int 0]
def g6_103 : U := .tup [.int 11, .int 2, .int 1, .int 10, .int 9, .int 8, .int 7, .int 6, .int 5, .int 4, .int 3, .int 0]
def g6_104 : U := .tup [.int 11, .int 4, .int 3, .int 2, .int 1, .int 6, .int 5, .int 8, .int 7, .int 10, .int 9, .int 0]
def g6_105 : U := .tup [.int 11, .int 4, .int 3, .int 2, .int 1, .int 6, .int 5, .int 10, .int 9, .int 8, .int 7, .int 0]
def g6_106 : U := .tup [.int 11, .int 4, .int 3, .int 2, .int 1, .int 8, .int 7, .int 6, .int 5, .int 10, .int 9, .int 0]
def g6_107 : U := .tup [.int 11, .int 4, .int 3, .int 2, .int 1, .int 10, .int 7, .int 6, .int 9, .int 8, .int 5, .int 0]
def g6_108 : U := .tup [.int 11, .int 4, .int 3, .int 2, .int 1, .int 10, .int 9, .int 8, .int 7, .int 6, .int 5, .int 0]
def g6_109 : U := .tup [.int 11, .int 6, .int 3, .int 2, .int 5, .int 4, .int 1, .int 8, .int 7, .int 10, .int 9, .int 0]
def g6_110 : U := .tup [.int 11, .int 6, .int 3, .int 2, .int 5, .int 4, .int 1, .int 10, .int 9, .int 8, .int 7, .int 0]
def g6_111 : U := .tup [.int 11, .int 6, .int 5, .int 4, .int 3, .int 2, .int 1, .int 8, .int 7, .int 10, .int 9, .int 0]
def g6_112 : U := .tup [.int 11, .int 6, .int 5, .int 4, .int 3, .int 2, .int 1, .int 10, .int 9, .int 8, .int 7, .int 0]
def g6_113 : U := .tup [.int 11, .int 8, .int 3, .int 2, .int 5, .int 4, .int 7, .int 6, .int 1, .int 10, .int 9, .int 0]
def g6_114 : U := .tup [.int 11, .int 8, .int 3, .int 2, .int 7, .int 6, .int 5, .int 4, .int 1, .int 10, .int 9, .int 0]
def g6_115 : U := .tup [.int 11, .int 8, .int 5, .int 4, .int 3, .int 2, .int 7, .int 6, .int 1, .int 10, .int 9, .int 0]
def g6_116 : U := .tup [.int 11, .int 8, .int 7, .int 4, .int 3, .int 6, .int 5, .int 2, .int 1, .int 10, .int 9, .int 0]
def g6_117 : U := .tup [.int 11, .int 8, .int 7, .int 6, .int 5, .int 4, .int 3, .int 2, .int 1, .int 10, .int 9, .int 0]
def g6_118 : U := .tup [.int 11, .int 10, .int 3, .int 2, .int 5, .int 4, .int 7, .int 6, .int 9, .int 8, .int 1, .int 0]
def g6_119 : U := .tup [.int 11, .int 10, .int 3, .int 2, .int 5, .int 4, .int 9, .int 8, .int 7, .int 6, .int 1, .int 0]
def g6_120 : U := .tup [.int 11, .int 10, .int 3, .int 2, .int 7, .int 6, .int 5, .int 4, .int 9, .int 8, .int 1, .int 0]
def g6_121 : U := .tup [.int 11, .int 10, .int 3, .int 2, .int 9, .int 6, .int 5, .int 8, .int 7, .int 4, .int 1, .int 0]
def g6_122 : U := .tup [.int 11, .int 10, .int 3, .int 2, .int 9, .int 8, .int 7, .int 6, .int 5, .int 4, .int 1, .int 0]
def g6_123 : U := .tup [.int 11, .int 10, .int 5, .int 4, .int 3, .int 2, .int 7, .int 6, .int 9, .int 8, .int 1, .int 0]
def g6_124 : U := .tup [.int 11, .int 10, .int 5, .int 4, .int 3, .int 2, .int 9, .int 8, .int 7, .int 6, .int 1, .int 0]
def g6_125 : U := .tup [.int 11, .int 10, .int 7, .int 4, .int 3, .int 6, .int 5, .int 2, .int 9, .int 8, .int 1, .int 0]
def g6_126 : U := .tup [.int 11, .int 10, .int 7, .int 6, .int 5, .int 4, .int 3, .int 2, .int 9, .int 8, .int 1, .int 0]
def g6_127 : U := .tup [.int 11, .int 10, .int 9, .int 4, .int 3, .int 6, .int 5, .int 8, .int 7, .int 2, .int 1, .int 0]
def g6_128 : U := .tup [.int 11, .int 10, .int 9, .int 4, .int 3, .int 8, .int 7, .int 6, .int 5, .int 2, .int 1, .int 0]
def g6_129 : U := .tup [.int 11, .int 10, .int 9, .int 6, .int 5, .int 4, .int 3, .int 8, .int 7, .int 2, .int 1, .int 0]
def g6_130 : U := .tup [.int 11, .int 10, .int 9, .int 8, .int 5, .int 4, .int 7, .int 6, .int 3, .int 2, .int 1, .int 0]
def g6_131 : U := .tup [.int 11, .int 10, .int 9, .int 8, .int 7, .int 6, .int 5, .int 4, .int 3, .int 2, .int 1, .int 0]
def T6 : List U := [g6_0, g6_1, g6_2, g6_3, g6_4, g6_5, g6_6, g6_7, g6_8, g6_9, g6_10, g6_11, g6_12, g6_13, g6_14, g6_15, g6_16, g6_17, g6_18, g6_19, g6_20, g6_21, g6_22, g6_23, g6_24, g6_25, g6_26, g6_27, g6_28, g6_29, g6_30, g6_31, g6_32, g6_33, g6_34, g6_35, g6_36, g6_37, g6_38, g6_39, g6_40, g6_41, g6_42, g6_43, g6_44, g6_45, g6_46, g6_47, g6_48, g6_49, g6_50, g6_51, g6_52, g6_53, g6_54, g6_55, g6_56, g6_57, g6_58, g6_59, g6_60, g6_61, g6_62, g6_63, g6_64, g6_65, g6_66, g6_67, g6_68, g6_69, g6_70, g6_71, g6_72, g6_73, g6_74, g6_75, g6_76, g6_77, g6_78, g6_79, g6_80, g6_81, g6_82, g6_83, g6_84, g6_85, g6_86, g6_87, g6_88, g6_89, g6_90, g6_91, g6_92, g6_93, g6_94, g6_95, g6_96, g6_97, g6_98, g6_99, g6_100, g6_101, g6_102, g6_103, g6_104, g6_105, g6_106, g6_107, g6_108, g6_109, g6_110, g6_111, g6_112, g6_113, g6_114, g6_115, g6_116, g6_117, g6_118, g6_119, g6_120, g6_121, g6_122, g6_123, g6_124, g6_125, g6_126, g6_127, g6_128, g6_129, g6_130, g6_131]
def E6 : List U := [.int 0, .int 1, .int 2, .int 3, .int 4, .int 5, .int 6, .int 7, .int 8, .int 9, .int 10, .int 11]
def Z6 : List U := [.int (-12), .int (-11), .int (-10), .int (-9), .int (-8), .int (-7), .int (-6), .int (-5), .int (-4), .int (-3), .int (-2), .int (-1), .int (0), .int (1), .int (2), .int (3), .int (4), .int (5), .int (6), .int (7), .int (8), .int (9), .int (10), .int (11), .int (12)]
end Rx.S

namespace Rx.S
open PySem PySem.Spec PyProof.Rows L2 Rx
/-! G70: a lap of k70, from its checks -/
theorem seqU_lst (us : List U) : seqU (.lst us) = some us := rfl
theorem go_val {α : Type} {t : Option α} {v : α} {k : α → Option (Fw (List U) (List U))} (h : t = some v) : bnd t k = k v := by rw [h]; rfl
theorem go_no {t : Option Bool} {x y : Option (Fw (List U) (List U))} (h : t = some false) : (bnd t fun b => cond b x y) = y := by rw [h]; rfl
theorem go2 {C : Type} {t : Option Bool} {x y : Option (Fw Unit C)} (h : t = some false) : (bnd t fun b => cond b x y) = y := by rw [h]; rfl
theorem go_nx {S T C : Type} {t : Option (Fw S C)} {k : S → Option (Fw T C)} {s : S} (h : t = some (.nx s)) : seqF t k = k s := by rw [h]; rfl
theorem no_or {t : Option Bool} {y : Option Bool} (h : t = some false) (h2 : y = some false) : (bnd t fun b => cond b (some true) y) = some false := by rw [h, h2]; rfl
theorem for_inv {S C : Type} {P : Nat → S → Prop} {f : U → S → Option (Fw S S)} : ∀ (xs : List U) (k : Nat) (s : S), P k s → (∀ x ∈ xs, ∀ j s, j < k + xs.length → P j s → ∃ s', f x s = some (.nx s') ∧ P (j + 1) s') → ∃ s', forU (C := C) f xs s = some (.nx s') ∧ P (k + xs.length) s'
  | [], k, s, h, _ => ⟨s, rfl, h⟩
  | x :: xs, k, s, h, hf => by
    obtain ⟨s1, e1, h1⟩ := hf x (by simp) k s (by simp) h
    obtain ⟨s2, e2, h2⟩ := for_inv (C := C) xs (k + 1) s1 h1 fun y hy j s hj hP => hf y (List.mem_cons_of_mem _ hy) j s (by simp only [List.length_cons]; omega) hP
    refine ⟨s2, ?_, by
      have : k + 1 + xs.length = k + (x :: xs).length := by simp; omega
      rw [← this]; exact h2⟩
    show bnd (f x s) _ = _
    rw [e1]
    exact e2
theorem mapU_congr {f g : U → Option U} : ∀ {xs : List U}, (∀ x ∈ xs, f x = g x) → mapU f xs = mapU g xs
  | [], _ => rfl
  | x :: xs, h => by
    show bnd (f x) _ = bnd (g x) _
    rw [h x List.mem_cons_self, mapU_congr fun y hy => h y (List.mem_cons_of_mem _ hy)]

structure Fa (T E Z : List U) (M N : U) : Prop where
  e : ∀ w ∈ T, ∀ e ∈ E, ckE T E M w e = true
  s : ∀ w ∈ T, ∀ st ∈ Z, ckS T Z w st = true
  o : ∀ w ∈ T, ckO T M N w = true
  b : ∀ e ∈ E, ckB T M N e = true
  m : ckM M = true
  st : ∀ st ∈ Z, q_st st = some false
  all : u_all_links M = some (.lst T)
  one : U.int 1 ∈ Z
section
variable {T E Z : List U} {M N w st e : U} (F : Fa T E Z M N)
include F
theorem Fa.own (hw : w ∈ T) : u_sure_links w = some w ∧ u_is_links w = some (.bl true) ∧ lenU w = some N ∧ (∃ r ∈ T, u_links_mirrored w = some r) ∧ lb_law_k70_1 ([], M) w () = some (.nx ()) ∧ q_t5 M w = some false ∧ q_t2b M w = some false ∧ q_t3a w = some false ∧ neU w w = some false := by
  have h := F.o w hw
  unfold ckO at h
  obtain ⟨h1, h⟩ := an_ok h
  obtain ⟨h2, h⟩ := an_ok h
  obtain ⟨h3, h⟩ := an_ok h
  obtain ⟨r, h4, h⟩ := opB_ok h
  obtain ⟨h5, h⟩ := an_ok h
  obtain ⟨h6, h⟩ := an_ok h
  obtain ⟨h7, h⟩ := an_ok h
  obtain ⟨h8, h⟩ := an_ok h
  obtain ⟨h9, h⟩ := an_ok h
  obtain ⟨x, q1, q2⟩ := opB_ok h1
  obtain ⟨y, q3, q4⟩ := opB_ok h3
  refine ⟨by rw [q1, sameT_eq q2], isTrue1_ok h2, by rw [q3, sameI_eq q4], ⟨r, inT_mem h5, h4⟩, isN_ok h6, isF_ok h7, isF_ok h8, isF_ok h9, isF_ok h⟩
theorem Fa.turned (hw : w ∈ T) (hs : st ∈ Z) : u_links_turned w st = u_turned_in w st := by
  have h1 := (F.own hw).1
  have h2 := F.st st hs
  show retO (bnd (u_sure_links w) _) = _
  rw [h1]
  show retO (bnd (q_st st) _) = _
  rw [h2]
  show retO (bnd (u_turned_in w st) fun a => some (.rt a [])) = _
  cases u_turned_in w st <;> rfl
theorem Fa.below (he : e ∈ E) : u_is_below e N = some (.bl true) ∧ ∃ nx, q_n1 M e = some nx := by
  have h := F.b e he
  unfold ckB at h
  obtain ⟨h1, h⟩ := an_ok h
  obtain ⟨nx, h2, h⟩ := opB_ok h
  exact ⟨isTrue1_ok h1, nx, h2⟩
theorem Fa.moved (hw : w ∈ T) (he : e ∈ E) : u_link_moved w e = u_moved_in w e := by
  have h1 := F.own hw
  have h2 := (F.below he).1
  show retO (bnd (u_sure_links w) _) = _
  rw [h1.1]
  show retO (bnd (bnd (bnd (bnd (lenU w) fun a4 => u_is_below e a4) truU) fun a5 => some (!a5)) _) = _
  rw [h1.2.2.1]
  show retO (bnd (bnd (bnd (u_is_below e N) truU) fun a5 => some (!a5)) _) = _
  rw [h2]
  show retO (bnd (u_moved_in w e) fun a => some (.rt a [])) = _
  cases u_moved_in w e <;> rfl
theorem Fa.s4 (he : e ∈ E) {nx : U} (hn : q_n1 M e = some nx) : q_s4 M e nx = some (.nx ()) := by
  have h := F.b e he
  unfold ckB at h
  obtain ⟨_, h⟩ := an_ok h
  obtain ⟨nx', h2, h⟩ := opB_ok h
  obtain ⟨b, h3, h⟩ := opB_ok h
  rw [hn] at h2
  cases h2
  show (bnd (gtP M (.int 1)) fun a => _) = _
  rw [h3]
  cases b with
  | false => rfl
  | true =>
    obtain ⟨v, h4, h⟩ := opB_ok h
    obtain ⟨h5, h⟩ := an_ok h
    obtain ⟨ys, h6, h⟩ := opB_ok h
    obtain ⟨h7, h⟩ := an_ok h
    obtain ⟨zs, h8, h9⟩ := opB_ok h
    have e1 : mapU (fun x => u_link_moved x e) T = some ys := by
      rw [← h6]
      exact mapU_congr fun x hx => F.moved hx he
    have e2 : len6 ys = some ys := by
      show cond (Nat.ble ys.length 1000000) _ _ = _
      rw [h7]
      rfl
    show (bnd (bnd (bnd (bnd (u_all_links M) seqU) _) _) _) = _
    rw [F.all]
    show (bnd (q_sh T e nx) _) = _
    rw [h4]
    refine (go2 (no_or (isF_ok h5) ?_)).trans rfl
    show (bnd (bnd (bnd (bnd (bnd (bnd (u_all_links M) seqU) _) _) sortSetL) _) _) = _
    rw [F.all]
    show (bnd (bnd (bnd (bnd (bnd (mapU (fun x => u_link_moved x e) T) len6) _) sortSetL) _) _) = _
    rw [e1]
    show (bnd (bnd (bnd (bnd (len6 ys) _) sortSetL) _) _) = _
    rw [e2]
    show (bnd (bnd (sortSetL (.lst ys)) _) _) = _
    rw [h8]
    have h10 := isF_ok h9
    exact h10
theorem Fa.lb (hw : w ∈ T) (z : List U) : lb_law_k70_1 (z, M) w () = some (.nx ()) := (F.own hw).2.2.2.2.1
theorem Fa.body (hw : w ∈ T) (he : e ∈ E) (hs : st ∈ Z) (z w' s : List U) : rb_law_k70_2 (z, M) (w', w) (s, e, st) = some (.nx s) := by
  obtain ⟨_, _, _, ⟨mir, hmi, hmr⟩, _, t5, t2b, t3a, _⟩ := F.own hw
  have h := F.e w hw e he
  unfold ckE at h
  obtain ⟨nx, hn, h⟩ := opB_ok h
  obtain ⟨hnE, h⟩ := an_ok h
  have hnE := inI_mem hnE
  obtain ⟨far, hf, h⟩ := opB_ok h
  obtain ⟨hfT, h⟩ := an_ok h
  have hfT := inT_mem hfT
  obtain ⟨h1b, h⟩ := an_ok h
  obtain ⟨r1, hr1, h⟩ := opB_ok h
  obtain ⟨x1, hx1, h⟩ := opB_ok h
  obtain ⟨y1, hy1, hxy⟩ := opB_ok h
  have hxy := sameT_eq hxy
  subst hxy
  have hr1T : r1 ∈ T := by
    have g := F.s w hw _ F.one
    unfold ckS at g
    obtain ⟨r, g1, g⟩ := opB_ok g
    rw [hr1] at g1
    cases g1
    exact inT_mem (an_ok g).1
  have hx1T : x1 ∈ T := by
    have g := F.e r1 hr1T nx hnE
    unfold ckE at g
    obtain ⟨_, _, g⟩ := opB_ok g
    obtain ⟨_, g⟩ := an_ok g
    obtain ⟨r, g1, g⟩ := opB_ok g
    rw [hx1] at g1
    cases g1
    exact inT_mem (an_ok g).1
  have h := F.s w hw st hs
  unfold ckS at h
  obtain ⟨r, hr, h⟩ := opB_ok h
  obtain ⟨hrT, h⟩ := an_ok h
  have hrT := inT_mem hrT
  obtain ⟨ns, hns, h⟩ := opB_ok h
  obtain ⟨hnZ, h⟩ := an_ok h
  have hnZ := inI_mem hnZ
  obtain ⟨y, hy, hyw⟩ := opB_ok h
  have hyw := sameT_eq hyw
  subst hyw
  have l1 : u_link_moved y e = some far := (F.moved hw he).trans hf
  have l2 : u_links_turned y st = some r := (F.turned hw hs).trans hr
  have l3 : u_links_turned r ns = some y := (F.turned hrT hnZ).trans hy
  have l4 : u_links_turned y (.int 1) = some r1 := (F.turned hw F.one).trans hr1
  have l5 : u_link_moved r1 nx = some x1 := (F.moved hr1T hnE).trans hx1
  have l6 : u_links_turned far (.int 1) = some x1 := (F.turned hfT F.one).trans hy1
  unfold rb_law_k70_2
  refine (go_val (v := nx) hn).trans ?_
  refine (go_val (v := far) l1).trans ?_
  refine (go_no (no_or ?_ (isF_ok h1b))).trans ?_
  · show bnd (u_is_links far) _ = _
    rw [(F.own hfT).2.1]
    rfl
  refine (go_nx (s := ()) ?_).trans ?_
  · show bnd (bnd (bnd (u_links_turned y st) fun a191 => bnd (u_links_mirrored y) fun a192 => some (.tup [y, far, a191, a192])) seqU) _ = _
    rw [l2]
    show bnd (bnd (bnd (u_links_mirrored y) fun a192 => some (.tup [y, far, r, a192])) seqU) _ = _
    rw [hmr]
    obtain ⟨s', q, _⟩ := for_inv (C := List U) (P := fun _ (_ : Unit) => True) (f := fun x s => bnd (some x) fun q => lb_law_k70_1 (z, M) q s) [y, far, r, mir] 0 () trivial fun x hx j s _ _ => by
      refine ⟨(), F.lb ?_ z, trivial⟩
      simp only [List.mem_cons, List.not_mem_nil, or_false] at hx
      rcases hx with rfl | rfl | rfl | rfl
      · exact hw
      · exact hfT
      · exact hrT
      · exact hmi
    exact q
  refine (go_no (no_or ?_ t2b)).trans ?_
  · show bnd (bnd (u_links_turned y st) fun a197 => bnd (subU (.int 0) st) fun a198 => u_links_turned a197 a198) _ = _
    rw [l2]
    show bnd (bnd (subU (.int 0) st) fun a198 => u_links_turned r a198) _ = _
    rw [hns]
    show bnd (u_links_turned r ns) _ = _
    rw [l3]
    exact (F.own hw).2.2.2.2.2.2.2.2
  refine (go_no (no_or t3a ?_)).trans ?_
  · show bnd (bnd (u_links_turned y (.int 1)) fun a236 => bnd (q_n1 M e) fun a237 => u_link_moved a236 a237) _ = _
    rw [l4]
    show bnd (bnd (q_n1 M e) fun a237 => u_link_moved r1 a237) _ = _
    rw [hn]
    show bnd (u_link_moved r1 nx) _ = _
    rw [l5]
    show bnd (u_links_turned far (.int 1)) _ = _
    rw [l6]
    exact (F.own hx1T).2.2.2.2.2.2.2.2
  refine (go_nx (s := ()) (F.s4 he hn)).trans ?_
  refine (go_no t5).trans ?_
  have h := F.m
  unfold ckM at h
  obtain ⟨ns', h1, h2⟩ := opB_ok h
  refine (go_val (v := ns') h1).trans ?_
  refine (go_no (isF_ok h2)).trans ?_
  rfl
end
end Rx.S

namespace Rx.S
open PySem PySem.Spec PyProof.Rows L2 Rx
/-! the checks of k70; printed by mkC70.py -/
theorem alU_app {k : U → Bool} {xs : List U} (h : alU k xs = true) : ∀ x ∈ xs, k x = true := alU_ok h
def T1_0 : List U := [g1_0]
theorem cut1 : T1 = T1_0 := rfl
theorem kE1_0 : alU (fun w => alU (ckE T1 E1 (.int 1) w) E1) T1_0 = true := by kernel_rfl
theorem kE1 : ∀ w ∈ T1, alU (ckE T1 E1 (.int 1) w) E1 = true := alU_ok kE1_0
theorem kS1_0 : alU (fun w => alU (ckS T1 Z1 w) Z1) T1_0 = true := by kernel_rfl
theorem kS1 : ∀ w ∈ T1, alU (ckS T1 Z1 w) Z1 = true := alU_ok kS1_0
theorem kO1_0 : alU (fun w => ckO T1 (.int 1) (.int 2) w) T1_0 = true := by kernel_rfl
theorem kO1 : ∀ w ∈ T1, ckO T1 (.int 1) (.int 2) w = true := alU_ok kO1_0
theorem kB1 : alU (ckB T1 (.int 1) (.int 2)) E1 = true := by kernel_rfl
theorem kM1 : ckM (.int 1) = true := by kernel_rfl
theorem kZ1 : alU (fun st => isF (q_st st)) Z1 = true := by kernel_rfl
theorem kI1 : inI (.int 1) Z1 = true := by kernel_rfl
theorem kA1 : u_all_links (.int 1) = some (.lst T1) := by kernel_rfl
theorem kL1 : u__law_all_links (.int 1) = some (.lst T1) := by kernel_rfl
theorem fa1 : Fa T1 E1 Z1 (.int 1) (.int 2) := ⟨fun w hw e he => alU_ok (kE1 w hw) e he, fun w hw s hs => alU_ok (kS1 w hw) s hs, kO1, fun e he => alU_ok kB1 e he, kM1, fun s hs => isF_ok (alU_ok kZ1 s hs), kA1, inI_mem kI1⟩
def T2_0 : List U := [g2_0, g2_1]
theorem cut2 : T2 = T2_0 := rfl
theorem kE2_0 : alU (fun w => alU (ckE T2 E2 (.int 2) w) E2) T2_0 = true := by kernel_rfl
theorem kE2 : ∀ w ∈ T2, alU (ckE T2 E2 (.int 2) w) E2 = true := alU_ok kE2_0
theorem kS2_0 : alU (fun w => alU (ckS T2 Z2 w) Z2) T2_0 = true := by kernel_rfl
theorem kS2 : ∀ w ∈ T2, alU (ckS T2 Z2 w) Z2 = true := alU_ok kS2_0
theorem kO2_0 : alU (fun w => ckO T2 (.int 2) (.int 4) w) T2_0 = true := by kernel_rfl
theorem kO2 : ∀ w ∈ T2, ckO T2 (.int 2) (.int 4) w = true := alU_ok kO2_0
theorem kB2 : alU (ckB T2 (.int 2) (.int 4)) E2 = true := by kernel_rfl
theorem kM2 : ckM (.int 2) = true := by kernel_rfl
theorem kZ2 : alU (fun st => isF (q_st st)) Z2 = true := by kernel_rfl
theorem kI2 : inI (.int 1) Z2 = true := by kernel_rfl
theorem kA2 : u_all_links (.int 2) = some (.lst T2) := by kernel_rfl
theorem kL2 : u__law_all_links (.int 2) = some (.lst T2) := by kernel_rfl
theorem fa2 : Fa T2 E2 Z2 (.int 2) (.int 4) := ⟨fun w hw e he => alU_ok (kE2 w hw) e he, fun w hw s hs => alU_ok (kS2 w hw) s hs, kO2, fun e he => alU_ok kB2 e he, kM2, fun s hs => isF_ok (alU_ok kZ2 s hs), kA2, inI_mem kI2⟩
def T3_0 : List U := [g3_0, g3_1, g3_2, g3_3, g3_4]
theorem cut3 : T3 = T3_0 := rfl
theorem kE3_0 : alU (fun w => alU (ckE T3 E3 (.int 3) w) E3) T3_0 = true := by kernel_rfl
theorem kE3 : ∀ w ∈ T3, alU (ckE T3 E3 (.int 3) w) E3 = true := alU_ok kE3_0
theorem kS3_0 : alU (fun w => alU (ckS T3 Z3 w) Z3) T3_0 = true := by kernel_rfl
theorem kS3 : ∀ w ∈ T3, alU (ckS T3 Z3 w) Z3 = true := alU_ok kS3_0
theorem kO3_0 : alU (fun w => ckO T3 (.int 3) (.int 6) w) T3_0 = true := by kernel_rfl
theorem kO3 : ∀ w ∈ T3, ckO T3 (.int 3) (.int 6) w = true := alU_ok kO3_0
theorem kB3 : alU (ckB T3 (.int 3) (.int 6)) E3 = true := by kernel_rfl
theorem kM3 : ckM (.int 3) = true := by kernel_rfl
theorem kZ3 : alU (fun st => isF (q_st st)) Z3 = true := by kernel_rfl
theorem kI3 : inI (.int 1) Z3 = true := by kernel_rfl
theorem kA3 : u_all_links (.int 3) = some (.lst T3) := by kernel_rfl
theorem kL3 : u__law_all_links (.int 3) = some (.lst T3) := by kernel_rfl
theorem fa3 : Fa T3 E3 Z3 (.int 3) (.int 6) := ⟨fun w hw e he => alU_ok (kE3 w hw) e he, fun w hw s hs => alU_ok (kS3 w hw) s hs, kO3, fun e he => alU_ok kB3 e he, kM3, fun s hs => isF_ok (alU_ok kZ3 s hs), kA3, inI_mem kI3⟩
def T4_0 : List U := [g4_0, g4_1, g4_2, g4_3, g4_4, g4_5, g4_6, g4_7, g4_8, g4_9, g4_10, g4_11, g4_12, g4_13]
theorem cut4 : T4 = T4_0 := rfl
theorem kE4_0 : alU (fun w => alU (ckE T4 E4 (.int 4) w) E4) T4_0 = true := by kernel_rfl
theorem kE4 : ∀ w ∈ T4, alU (ckE T4 E4 (.int 4) w) E4 = true := alU_ok kE4_0
theorem kS4_0 : alU (fun w => alU (ckS T4 Z4 w) Z4) T4_0 = true := by kernel_rfl
theorem kS4 : ∀ w ∈ T4, alU (ckS T4 Z4 w) Z4 = true := alU_ok kS4_0
theorem kO4_0 : alU (fun w => ckO T4 (.int 4) (.int 8) w) T4_0 = true := by kernel_rfl
theorem kO4 : ∀ w ∈ T4, ckO T4 (.int 4) (.int 8) w = true := alU_ok kO4_0
theorem kB4 : alU (ckB T4 (.int 4) (.int 8)) E4 = true := by kernel_rfl
theorem kM4 : ckM (.int 4) = true := by kernel_rfl
theorem kZ4 : alU (fun st => isF (q_st st)) Z4 = true := by kernel_rfl
theorem kI4 : inI (.int 1) Z4 = true := by kernel_rfl
theorem kA4 : u_all_links (.int 4) = some (.lst T4) := by kernel_rfl
theorem kL4 : u__law_all_links (.int 4) = some (.lst T4) := by kernel_rfl
theorem fa4 : Fa T4 E4 Z4 (.int 4) (.int 8) := ⟨fun w hw e he => alU_ok (kE4 w hw) e he, fun w hw s hs => alU_ok (kS4 w hw) s hs, kO4, fun e he => alU_ok kB4 e he, kM4, fun s hs => isF_ok (alU_ok kZ4 s hs), kA4, inI_mem kI4⟩
def T5_0 : List U := [g5_0, g5_1, g5_2, g5_3, g5_4, g5_5, g5_6, g5_7, g5_8, g5_9, g5_10, g5_11, g5_12, g5_13]
def T5_1 : List U := [g5_14, g5_15, g5_16, g5_17, g5_18, g5_19, g5_20, g5_21, g5_22, g5_23, g5_24, g5_25, g5_26, g5_27]
def T5_2 : List U := [g5_28, g5_29, g5_30, g5_31, g5_32, g5_33, g5_34, g5_35, g5_36, g5_37, g5_38, g5_39, g5_40, g5_41]
theorem cut5 : T5 = T5_0 ++ (T5_1 ++ (T5_2)) := rfl
theorem kE5_0 : alU (fun w => alU (ckE T5 E5 (.int 5) w) E5) T5_0 = true := by kernel_rfl
theorem kE5_1 : alU (fun w => alU (ckE T5 E5 (.int 5) w) E5) T5_1 = true := by kernel_rfl
theorem kE5_2 : alU (fun w => alU (ckE T5 E5 (.int 5) w) E5) T5_2 = true := by kernel_rfl
theorem kE5 : ∀ w ∈ T5, alU (ckE T5 E5 (.int 5) w) E5 = true := by
  intro w hw
  rw [cut5] at hw
  simp only [List.mem_append] at hw
  rcases hw with h | h | h
  · exact alU_ok kE5_0 w h
  · exact alU_ok kE5_1 w h
  · exact alU_ok kE5_2 w h
theorem kS5_0 : alU (fun w => alU (ckS T5 Z5 w) Z5) T5_0 = true := by kernel_rfl
theorem kS5_1 : alU (fun w => alU (ckS T5 Z5 w) Z5) T5_1 = true := by kernel_rfl
theorem kS5_2 : alU (fun w => alU (ckS T5 Z5 w) Z5) T5_2 = true := by kernel_rfl
theorem kS5 : ∀ w ∈ T5, alU (ckS T5 Z5 w) Z5 = true := by
  intro w hw
  rw [cut5] at hw
  simp only [List.mem_append] at hw
  rcases hw with h | h | h
  · exact alU_ok kS5_0 w h
  · exact alU_ok kS5_1 w h
  · exact alU_ok kS5_2 w h
theorem kO5_0 : alU (fun w => ckO T5 (.int 5) (.int 10) w) T5_0 = true := by kernel_rfl
theorem kO5_1 : alU (fun w => ckO T5 (.int 5) (.int 10) w) T5_1 = true := by kernel_rfl
theorem kO5_2 : alU (fun w => ckO T5 (.int 5) (.int 10) w) T5_2 = true := by kernel_rfl
theorem kO5 : ∀ w ∈ T5, ckO T5 (.int 5) (.int 10) w = true := by
  intro w hw
  rw [cut5] at hw
  simp only [List.mem_append] at hw
  rcases hw with h | h | h
  · exact alU_ok kO5_0 w h
  · exact alU_ok kO5_1 w h
  · exact alU_ok kO5_2 w h
theorem kB5 : alU (ckB T5 (.int 5) (.int 10)) E5 = true := by kernel_rfl
theorem kM5 : ckM (.int 5) = true := by kernel_rfl
theorem kZ5 : alU (fun st => isF (q_st st)) Z5 = true := by kernel_rfl
theorem kI5 : inI (.int 1) Z5 = true := by kernel_rfl
theorem kA5 : u_all_links (.int 5) = some (.lst T5) := by kernel_rfl
theorem kL5 : u__law_all_links (.int 5) = some (.lst T5) := by kernel_rfl
theorem fa5 : Fa T5 E5 Z5 (.int 5) (.int 10) := ⟨fun w hw e he => alU_ok (kE5 w hw) e he, fun w hw s hs => alU_ok (kS5 w hw) s hs, kO5, fun e he => alU_ok kB5 e he, kM5, fun s hs => isF_ok (alU_ok kZ5 s hs), kA5, inI_mem kI5⟩
def T6_0 : List U := [g6_0, g6_1, g6_2, g6_3, g6_4, g6_5, g6_6, g6_7, g6_8, g6_9, g6_10, g6_11]
def T6_1 : List U := [g6_12, g6_13, g6_14, g6_15, g6_16, g6_17, g6_18, g6_19, g6_20, g6_21, g6_22, g6_23]
def T6_2 : List U := [g6_24, g6_25, g6_26, g6_27, g6_28, g6_29, g6_30, g6_31, g6_32, g6_33, g6_34, g6_35]
def T6_3 : List U := [g6_36, g6_37, g6_38, g6_39, g6_40, g6_41, g6_42, g6_43, g6_44, g6_45, g6_46, g6_47]
def T6_4 : List U := [g6_48, g6_49, g6_50, g6_51, g6_52, g6_53, g6_54, g6_55, g6_56, g6_57, g6_58, g6_59]
def T6_5 : List U := [g6_60, g6_61, g6_62, g6_63, g6_64, g6_65, g6_66, g6_67, g6_68, g6_69, g6_70, g6_71]
def T6_6 : List U := [g6_72, g6_73, g6_74, g6_75, g6_76, g6_77, g6_78, g6_79, g6_80, g6_81, g6_82, g6_83]
def T6_7 : List U := [g6_84, g6_85, g6_86, g6_87, g6_88, g6_89, g6_90, g6_91, g6_92, g6_93, g6_94, g6_95]
def T6_8 : List U := [g6_96, g6_97, g6_98, g6_99, g6_100, g6_101, g6_102, g6_103, g6_104, g6_105, g6_106, g6_107]
def T6_9 : List U := [g6_108, g6_109, g6_110, g6_111, g6_112, g6_113, g6_114, g6_115, g6_116, g6_117, g6_118, g6_119]
def T6_10 : List U := [g6_120, g6_121, g6_122, g6_123, g6_124, g6_125, g6_126, g6_127, g6_128, g6_129, g6_130, g6_131]
theorem cut6 : T6 = T6_0 ++ (T6_1 ++ (T6_2 ++ (T6_3 ++ (T6_4 ++ (T6_5 ++ (T6_6 ++ (T6_7 ++ (T6_8 ++ (T6_9 ++ (T6_10)))))))))) := rfl
theorem kE6_0 : alU (fun w => alU (ckE T6 E6 (.int 6) w) E6) T6_0 = true := by kernel_rfl
theorem kE6_1 : alU (fun w => alU (ckE T6 E6 (.int 6) w) E6) T6_1 = true := by kernel_rfl
theorem kE6_2 : alU (fun w => alU (ckE T6 E6 (.int 6) w) E6) T6_2 = true := by kernel_rfl
theorem kE6_3 : alU (fun w => alU (ckE T6 E6 (.int 6) w) E6) T6_3 = true := by kernel_rfl
theorem kE6_4 : alU (fun w => alU (ckE T6 E6 (.int 6) w) E6) T6_4 = true := by kernel_rfl
theorem kE6_5 : alU (fun w => alU (ckE T6 E6 (.int 6) w) E6) T6_5 = true := by kernel_rfl
theorem kE6_6 : alU (fun w => alU (ckE T6 E6 (.int 6) w) E6) T6_6 = true := by kernel_rfl
theorem kE6_7 : alU (fun w => alU (ckE T6 E6 (.int 6) w) E6) T6_7 = true := by kernel_rfl
theorem kE6_8 : alU (fun w => alU (ckE T6 E6 (.int 6) w) E6) T6_8 = true := by kernel_rfl
theorem kE6_9 : alU (fun w => alU (ckE T6 E6 (.int 6) w) E6) T6_9 = true := by kernel_rfl
theorem kE6_10 : alU (fun w => alU (ckE T6 E6 (.int 6) w) E6) T6_10 = true := by kernel_rfl
theorem kE6 : ∀ w ∈ T6, alU (ckE T6 E6 (.int 6) w) E6 = true := by
  intro w hw
  rw [cut6] at hw
  simp only [List.mem_append] at hw
  rcases hw with h | h | h | h | h | h | h | h | h | h | h
  · exact alU_ok kE6_0 w h
  · exact alU_ok kE6_1 w h
  · exact alU_ok kE6_2 w h
  · exact alU_ok kE6_3 w h
  · exact alU_ok kE6_4 w h
  · exact alU_ok kE6_5 w h
  · exact alU_ok kE6_6 w h
  · exact alU_ok kE6_7 w h
  · exact alU_ok kE6_8 w h
  · exact alU_ok kE6_9 w h
  · exact alU_ok kE6_10 w h
theorem kS6_0 : alU (fun w => alU (ckS T6 Z6 w) Z6) T6_0 = true := by kernel_rfl
theorem kS6_1 : alU (fun w => alU (ckS T6 Z6 w) Z6) T6_1 = true := by kernel_rfl
theorem kS6_2 : alU (fun w => alU (ckS T6 Z6 w) Z6) T6_2 = true := by kernel_rfl
theorem kS6_3 : alU (fun w => alU (ckS T6 Z6 w) Z6) T6_3 = true := by kernel_rfl
theorem kS6_4 : alU (fun w => alU (ckS T6 Z6 w) Z6) T6_4 = true := by kernel_rfl
theorem kS6_5 : alU (fun w => alU (ckS T6 Z6 w) Z6) T6_5 = true := by kernel_rfl
theorem kS6_6 : alU (fun w => alU (ckS T6 Z6 w) Z6) T6_6 = true := by kernel_rfl
theorem kS6_7 : alU (fun w => alU (ckS T6 Z6 w) Z6) T6_7 = true := by kernel_rfl
theorem kS6_8 : alU (fun w => alU (ckS T6 Z6 w) Z6) T6_8 = true := by kernel_rfl
theorem kS6_9 : alU (fun w => alU (ckS T6 Z6 w) Z6) T6_9 = true := by kernel_rfl
theorem kS6_10 : alU (fun w => alU (ckS T6 Z6 w) Z6) T6_10 = true := by kernel_rfl
theorem kS6 : ∀ w ∈ T6, alU (ckS T6 Z6 w) Z6 = true := by
  intro w hw
  rw [cut6] at hw
  simp only [List.mem_append] at hw
  rcases hw with h | h | h | h | h | h | h | h | h | h | h
  · exact alU_ok kS6_0 w h
  · exact alU_ok kS6_1 w h
  · exact alU_ok kS6_2 w h
  · exact alU_ok kS6_3 w h
  · exact alU_ok kS6_4 w h
  · exact alU_ok kS6_5 w h
  · exact alU_ok kS6_6 w h
  · exact alU_ok kS6_7 w h
  · exact alU_ok kS6_8 w h
  · exact alU_ok kS6_9 w h
  · exact alU_ok kS6_10 w h
theorem kO6_0 : alU (fun w => ckO T6 (.int 6) (.int 12) w) T6_0 = true := by kernel_rfl
theorem kO6_1 : alU (fun w => ckO T6 (.int 6) (.int 12) w) T6_1 = true := by kernel_rfl
theorem kO6_2 : alU (fun w => ckO T6 (.int 6) (.int 12) w) T6_2 = true := by kernel_rfl
theorem kO6_3 : alU (fun w => ckO T6 (.int 6) (.int 12) w) T6_3 = true := by kernel_rfl
theorem kO6_4 : alU (fun w => ckO T6 (.int 6) (.int 12) w) T6_4 = true := by kernel_rfl
theorem kO6_5 : alU (fun w => ckO T6 (.int 6) (.int 12) w) T6_5 = true := by kernel_rfl
theorem kO6_6 : alU (fun w => ckO T6 (.int 6) (.int 12) w) T6_6 = true := by kernel_rfl
theorem kO6_7 : alU (fun w => ckO T6 (.int 6) (.int 12) w) T6_7 = true := by kernel_rfl
theorem kO6_8 : alU (fun w => ckO T6 (.int 6) (.int 12) w) T6_8 = true := by kernel_rfl
theorem kO6_9 : alU (fun w => ckO T6 (.int 6) (.int 12) w) T6_9 = true := by kernel_rfl
theorem kO6_10 : alU (fun w => ckO T6 (.int 6) (.int 12) w) T6_10 = true := by kernel_rfl
theorem kO6 : ∀ w ∈ T6, ckO T6 (.int 6) (.int 12) w = true := by
  intro w hw
  rw [cut6] at hw
  simp only [List.mem_append] at hw
  rcases hw with h | h | h | h | h | h | h | h | h | h | h
  · exact alU_ok kO6_0 w h
  · exact alU_ok kO6_1 w h
  · exact alU_ok kO6_2 w h
  · exact alU_ok kO6_3 w h
  · exact alU_ok kO6_4 w h
  · exact alU_ok kO6_5 w h
  · exact alU_ok kO6_6 w h
  · exact alU_ok kO6_7 w h
  · exact alU_ok kO6_8 w h
  · exact alU_ok kO6_9 w h
  · exact alU_ok kO6_10 w h
theorem kB6 : alU (ckB T6 (.int 6) (.int 12)) E6 = true := by kernel_rfl
theorem kM6 : ckM (.int 6) = true := by kernel_rfl
theorem kZ6 : alU (fun st => isF (q_st st)) Z6 = true := by kernel_rfl
theorem kI6 : inI (.int 1) Z6 = true := by kernel_rfl
theorem kA6 : u_all_links (.int 6) = some (.lst T6) := by kernel_rfl
theorem kL6 : u__law_all_links (.int 6) = some (.lst T6) := by kernel_rfl
theorem fa6 : Fa T6 E6 Z6 (.int 6) (.int 12) := ⟨fun w hw e he => alU_ok (kE6 w hw) e he, fun w hw s hs => alU_ok (kS6 w hw) s hs, kO6, fun e he => alU_ok kB6 e he, kM6, fun s hs => isF_ok (alU_ok kZ6 s hs), kA6, inI_mem kI6⟩
end Rx.S

namespace Rx.S
open PySem PySem.Spec PyProof.Rows L2 Rx
/-! k70: the law over plain values; printed by mkQ70.py -/
def rgI (k : Nat → U) (L : List U) (n : Nat) : Bool := (List.range n).all fun d => inI (k d) L
theorem rgI_ok {k : Nat → U} {L : List U} {n : Nat} (h : rgI k L n = true) (d : Nat) (hd : d < n) : k d ∈ L := inI_mem (List.all_eq_true.mp h d (List.mem_range.mpr hd))
theorem lap {T E Z : List U} {M N : U} {n2 n4 k : Nat} {s : List U} (F : Fa T E Z M N) (hT : u__law_all_links M = some (.lst T)) (l0 : 0 < T.length) (l1 : T.length ≤ 1000)
    (h2 : mulU (.int 2) M = some (.int (n2 : Nat))) (h4 : (bnd (mulU (.int 4) M) fun a => addU a (.int 1)) = some (.int (n4 : Nat))) (p2 : 0 < n2) (p4 : 0 < n4) (u2 : n2 < 1000) (u4 : n4 < 1000)
    (hE : ∀ d, d < n2 → U.int (d : Nat) ∈ E) (hZ : ∀ d, d < n4 → U.int ((d : Nat) - (n2 : Nat)) ∈ Z) (ht : Tin k s) (hk : k ≤ 1000) :
    ∃ s', rb_law_k70_4 (s, M) = some (.nx s') ∧ Tin (k + 3) s' := by
  obtain ⟨s2, g, e1, hg, ht2⟩ := of_ok (gs := T) ht (by omega) l0 (by omega)
  obtain ⟨s3, d, e2, hd, ht3⟩ := take_nat (b := n2) ht2 (by omega) p2 (by omega)
  obtain ⟨s4, d2, e3, hd2, ht4⟩ := take_nat (b := n4) ht3 (by omega) p4 (by omega)
  have b1 : bp1 u__law_of s [.lst T] = some (s2, g) := e1
  have b2 : bp1 u__law_take s2 [.int (n2 : Nat)] = some (s3, .int (d : Nat)) := e2
  have b3 : bp1 u__law_take s3 [.int (n4 : Nat)] = some (s4, .int (d2 : Nat)) := e3
  have l5 : ∀ a b : U, len5 [a, b].length = true := fun _ _ => rfl
  have u2' : ∀ a b : U, un2 (.tup [a, b]) = some (a, b) := fun _ _ => rfl
  obtain ⟨c, h5, h6⟩ := bnd_ok h4
  refine ⟨s4, ?_, ht4⟩
  unfold rb_law_k70_4
  simp only [bnd_some, hT, b1]
  unfold rb_law_k70_3
  simp only [bnd_some, h2, h5, h6, b2, b3, subU_i, l5, cond_true, u2']
  exact F.body hg (hE d hd) (hZ d2 hd2) s s2 s4
theorem rE1 : rgI (fun d => .int (d : Nat)) E1 2 = true := by kernel_rfl
theorem rZ1 : rgI (fun d => .int ((d : Nat) - (2 : Nat))) Z1 5 = true := by kernel_rfl
theorem lap1 {k : Nat} {s : List U} (ht : Tin k s) (hk : k ≤ 1000) : ∃ s', rb_law_k70_4 (s, .int 1) = some (.nx s') ∧ Tin (k + 3) s' := lap (n2 := 2) (n4 := 5) fa1 kL1 (by decide) (by decide) rfl rfl (by decide) (by decide) (by decide) (by decide) (rgI_ok rE1) (rgI_ok rZ1) ht hk
theorem rE2 : rgI (fun d => .int (d : Nat)) E2 4 = true := by kernel_rfl
theorem rZ2 : rgI (fun d => .int ((d : Nat) - (4 : Nat))) Z2 9 = true := by kernel_rfl
theorem lap2 {k : Nat} {s : List U} (ht : Tin k s) (hk : k ≤ 1000) : ∃ s', rb_law_k70_4 (s, .int 2) = some (.nx s') ∧ Tin (k + 3) s' := lap (n2 := 4) (n4 := 9) fa2 kL2 (by decide) (by decide) rfl rfl (by decide) (by decide) (by decide) (by decide) (rgI_ok rE2) (rgI_ok rZ2) ht hk
theorem rE3 : rgI (fun d => .int (d : Nat)) E3 6 = true := by kernel_rfl
theorem rZ3 : rgI (fun d => .int ((d : Nat) - (6 : Nat))) Z3 13 = true := by kernel_rfl
theorem lap3 {k : Nat} {s : List U} (ht : Tin k s) (hk : k ≤ 1000) : ∃ s', rb_law_k70_4 (s, .int 3) = some (.nx s') ∧ Tin (k + 3) s' := lap (n2 := 6) (n4 := 13) fa3 kL3 (by decide) (by decide) rfl rfl (by decide) (by decide) (by decide) (by decide) (rgI_ok rE3) (rgI_ok rZ3) ht hk
theorem rE4 : rgI (fun d => .int (d : Nat)) E4 8 = true := by kernel_rfl
theorem rZ4 : rgI (fun d => .int ((d : Nat) - (8 : Nat))) Z4 17 = true := by kernel_rfl
theorem lap4 {k : Nat} {s : List U} (ht : Tin k s) (hk : k ≤ 1000) : ∃ s', rb_law_k70_4 (s, .int 4) = some (.nx s') ∧ Tin (k + 3) s' := lap (n2 := 8) (n4 := 17) fa4 kL4 (by decide) (by decide) rfl rfl (by decide) (by decide) (by decide) (by decide) (rgI_ok rE4) (rgI_ok rZ4) ht hk
theorem rE5 : rgI (fun d => .int (d : Nat)) E5 10 = true := by kernel_rfl
theorem rZ5 : rgI (fun d => .int ((d : Nat) - (10 : Nat))) Z5 21 = true := by kernel_rfl
theorem lap5 {k : Nat} {s : List U} (ht : Tin k s) (hk : k ≤ 1000) : ∃ s', rb_law_k70_4 (s, .int 5) = some (.nx s') ∧ Tin (k + 3) s' := lap (n2 := 10) (n4 := 21) fa5 kL5 (by decide) (by decide) rfl rfl (by decide) (by decide) (by decide) (by decide) (rgI_ok rE5) (rgI_ok rZ5) ht hk
theorem rE6 : rgI (fun d => .int (d : Nat)) E6 12 = true := by kernel_rfl
theorem rZ6 : rgI (fun d => .int ((d : Nat) - (12 : Nat))) Z6 25 = true := by kernel_rfl
theorem lap6 {k : Nat} {s : List U} (ht : Tin k s) (hk : k ≤ 1000) : ∃ s', rb_law_k70_4 (s, .int 6) = some (.nx s') ∧ Tin (k + 3) s' := lap (n2 := 12) (n4 := 25) fa6 kL6 (by decide) (by decide) rfl rfl (by decide) (by decide) (by decide) (by decide) (rgI_ok rE6) (rgI_ok rZ6) ht hk
theorem laps (x : U) {k : Nat} {s : List U} (ht : Tin k s) (hk : k ≤ 100) : ∃ s', lb_law_k70_5 x s = some (.nx s') ∧ Tin (k + 4) s' := by
  obtain ⟨s1, d, e, hd, ht1⟩ := take_nat (b := 6) ht (by omega) (by decide) (by decide)
  have b1 : bp1 u__law_take s [.int 6] = some (s1, .int (d : Nat)) := e
  have hm : ∃ s', rb_law_k70_4 (s1, .int (1 + (d : Nat))) = some (.nx s') ∧ Tin (k + 1 + 3) s' := by
    have : d = 0 ∨ d = 1 ∨ d = 2 ∨ d = 3 ∨ d = 4 ∨ d = 5 := by omega
    rcases this with rfl | rfl | rfl | rfl | rfl | rfl
    · exact lap1 ht1 (by omega)
    · exact lap2 ht1 (by omega)
    · exact lap3 ht1 (by omega)
    · exact lap4 ht1 (by omega)
    · exact lap5 ht1 (by omega)
    · exact lap6 ht1 (by omega)
  obtain ⟨s', q1, q2⟩ := hm
  refine ⟨s', ?_, q2⟩
  unfold lb_law_k70_5
  simp only [bnd_some, b1, addU_i]
  exact q1
noncomputable def fin : Option (Fw Unit Unit) := (bnd (bnd (some (.int 1)) fun a345 => some [a345]) fun v14_344 => (bnd (bnd (bnd (some (.int 1)) fun a347 => bnd (some (.int 12)) fun a348 => bnd (inte a347) fun a347j => bnd (inte a348) fun a348j => ranTo a347j a348j) fun a369 => folU (fun x350 s346 => bnd (some x350) fun q349 => (S.lb_law_k70_6 q349 s346)) a369 v14_344) fun s346 => (bnd (bnd (bnd (bnd (bnd (some (.int 1)) fun a370 => bnd (some (.int 12)) fun a371 => bnd (inte a370) fun a370j => bnd (inte a371) fun a371j => ranTo a370j a371j) fun a372 => bnd ((mapU fun x375 => bnd (some x375) fun q374 => (bnd (some q374) fun a376 => S.u_how_many_links a376)) a372) len6) fun a377 => some (.lst a377)) fun a382 => bnd (bnd (some (.lst s346)) fun a378 => bnd (bnd (some (.int 1)) asInt) fun a379 => bnd (some none) fun a380 => slU a379 a380 a378) fun a383 => bnd (eqU a382 a383) fun a381 => some (.bl a381)) fun a384 => some (.rt a384 []))))
theorem fin_ok : fin = some (.rt (.bl true) []) := by kernel_rfl
theorem law_plain (ns : List Int) (h : ns.length ≤ 63) : u_law_k70 (.frz ns) = some (.bl true) := by
  obtain ⟨c, hc⟩ := cells_ok ns h
  obtain ⟨xs, hb, ht⟩ := box_ok c
  obtain ⟨s', e, _⟩ := for_inv (C := Unit) (P := fun j s => Tin (4 * j) s) (f := fun x s => bnd (some x) fun q => lb_law_k70_5 q s) (rngU 0 4) 0 xs ht fun x hx j s hj ht => by
    have hj' : j < 0 + 4 := hj
    obtain ⟨s', q1, q2⟩ := laps x ht (by omega)
    exact ⟨s', q1, q2⟩
  unfold u_law_k70
  simp only [bnd_some, hc, hb]
  have e' : (bnd (bnd (inte (.int 4)) fun aj => ranTo 0 aj) fun a342 => forU (C := Unit) (fun x8 s6 => lb_law_k70_5 x8 s6) a342 xs) = some (.nx s') := e
  rw [e']
  show retO fin = _
  rw [fin_ok]
  rfl
end Rx.S

namespace Rx.K70
open PySem PySem.Spec PyProof.Rows L2 Rx
theorem law_true (ns : List Int) (h : ns.length ≤ 63) : ∃ st', f_law [.frz ns] [] = .ok (.bl true) st' := law_of v_law (S.law_plain ns h)
end Rx.K70

namespace Rx.K70
open PySem PySem.Spec PyProof.Rows L2 Rx
def fn : List He.DefD := ([dat1 "is_number" "is_number" s_is_number, dat1 "is_from" "is_from" s_is_from, dat1 "is_below" "is_below" s_is_below, dat1 "is_within" "is_within" s_is_within, dat1 "tupled" "tupled" s_tupled, dat1 "picks" "picks" s_picks, dat1 "is_links_of" "is_links_of" s_is_links_of, dat1 "sure_links" "sure_links" s_sure_links, dat1 "signs_of_links" "signs_of_links" s_signs_of_links, dat1 "links_by" "links_by" s_links_by, dat1 "all_bits" "all_bits" s_all_bits, dat1 "all_links_in" "all_links_in" s_all_links_in, dat1 "turned_in" "turned_in" s_turned_in, dat1 "sure_pairs" "sure_pairs" s_sure_pairs, dat1 "is_links" "is_links" s_is_links, dat1 "all_links" "all_links" s_all_links, dat1 "how_many_links" "how_many_links" s_how_many_links, dat1 "link_bits" "link_bits" s_link_bits, dat1 "links_of_bits" "links_of_bits" s_links_of_bits, dat1 "links_turned" "links_turned" s_links_turned, dat1 "links_mirrored" "links_mirrored" s_links_mirrored, dat1 "nested_links" "nested_links" s_nested_links, dat1 "short_links" "short_links" s_short_links, dat1 "moved_in" "moved_in" s_moved_in, dat1 "link_moved" "link_moved" s_link_moved, dat1 "links_beside" "links_beside" s_links_beside, dat1 "_law_box" "_law_box" s__law_box, dat1 "_law_take" "_law_take" s__law_take, dat1 "_law_cells" "_law_cells" s__law_cells, dat1 "_law_of" "_law_of" s__law_of] : List He.DefD) ++ ([dat1 "_law_all_links" "_law_all_links" s__law_all_links, dat1 "law" "law" s_law] : List He.DefD)
def fa0 : List He.Fa := ([.glo "is_number", .glo "is_from", .glo "is_below", .glo "is_within", .glo "tupled", .glo "picks", .glo "is_links_of", .glo "sure_links", .glo "signs_of_links", .glo "links_by", .glo "all_bits", .glo "all_links_in", .glo "turned_in", .glo "sure_pairs", .glo "is_links", .glo "all_links", .glo "how_many_links", .glo "link_bits", .glo "links_of_bits", .glo "links_turned", .glo "links_mirrored", .glo "nested_links", .glo "short_links", .glo "moved_in", .glo "link_moved", .glo "links_beside", .glo "_law_box", .glo "_law_take", .glo "_law_cells", .glo "_law_of"] : List He.Fa) ++ ([.glo "_law_all_links", .glo "law", .int "MOST" 18] : List He.Fa)
def fa : List He.Fa := fa0 ++ bnames.map He.Fa.free
def ck (K : PySem.W.Frag) : Bool := true
abbrev R : PySem.W.OpenRow := PySem.W.OpenLaw.row PySem.Challenge.rw_kissroads_k70_across_links_and_bits
abbrev hk : PySem.W.Hook := hookK 4 ck fa fn
def ob (s : PySem.W.SharedT) : He.AlD := obsKG 4 ck fa fn (HandSHeadRun.getT s)
theorem ob_eq (s : PySem.W.SharedT) : ob s = hk.obs s.abs := obsKG_eq (HandSHeadRun.getT_eq s)
def loose : List Str := (["CanNot", "TooMany", "Unfit", "is_number", "is_from", "is_below", "is_within", "tupled", "picks", "MOST", "is_links_of", "sure_links", "signs_of_links", "links_by", "all_bits", "all_links_in", "turned_in", "sure_pairs", "is_links", "all_links", "how_many_links", "link_bits", "links_of_bits", "links_turned", "links_mirrored", "nested_links", "short_links", "moved_in", "link_moved", "links_beside"] : List Str) ++ (["_law_box", "_law_take", "_law_cells", "_law_of", "_law_all_links"] : List Str)
theorem run (w : World) : HandSHeadRun.RunEq R (PySem.W.view R.prog [40]) hk ob 1640 loose w := by
  intro os
  kernel_rfl
theorem hh_of {K : PySem.W.Frag} {h : Heap} {mg : Str → Option Value} (X : K.In h) (G : h.Ns mainGlobals mg) (c : Tells ck fa fn K) : HH K mg := by
  have hf : ∀ f, f ∈ fa0 → f ∈ fa := fun f h => List.mem_append_left _ h
  exact {
    F_is_number := c.fun_ X G 0 rfl (hf _ (by unfold fa0; simp))
    F_is_from := c.fun_ X G 1 rfl (hf _ (by unfold fa0; simp))
    F_is_below := c.fun_ X G 2 rfl (hf _ (by unfold fa0; simp))
    F_is_within := c.fun_ X G 3 rfl (hf _ (by unfold fa0; simp))
    F_tupled := c.fun_ X G 4 rfl (hf _ (by unfold fa0; simp))
    F_picks := c.fun_ X G 5 rfl (hf _ (by unfold fa0; simp))
    F_is_links_of := c.fun_ X G 6 rfl (hf _ (by unfold fa0; simp))
    F_sure_links := c.fun_ X G 7 rfl (hf _ (by unfold fa0; simp))
    F_signs_of_links := c.fun_ X G 8 rfl (hf _ (by unfold fa0; simp))
    F_links_by := c.fun_ X G 9 rfl (hf _ (by unfold fa0; simp))
    F_all_bits := c.fun_ X G 10 rfl (hf _ (by unfold fa0; simp))
    F_all_links_in := c.fun_ X G 11 rfl (hf _ (by unfold fa0; simp))
    F_turned_in := c.fun_ X G 12 rfl (hf _ (by unfold fa0; simp))
    F_sure_pairs := c.fun_ X G 13 rfl (hf _ (by unfold fa0; simp))
    F_is_links := c.fun_ X G 14 rfl (hf _ (by unfold fa0; simp))
    F_all_links := c.fun_ X G 15 rfl (hf _ (by unfold fa0; simp))
    F_how_many_links := c.fun_ X G 16 rfl (hf _ (by unfold fa0; simp))
    F_link_bits := c.fun_ X G 17 rfl (hf _ (by unfold fa0; simp))
    F_links_of_bits := c.fun_ X G 18 rfl (hf _ (by unfold fa0; simp))
    F_links_turned := c.fun_ X G 19 rfl (hf _ (by unfold fa0; simp))
    F_links_mirrored := c.fun_ X G 20 rfl (hf _ (by unfold fa0; simp))
    F_nested_links := c.fun_ X G 21 rfl (hf _ (by unfold fa0; simp))
    F_short_links := c.fun_ X G 22 rfl (hf _ (by unfold fa0; simp))
    F_moved_in := c.fun_ X G 23 rfl (hf _ (by unfold fa0; simp))
    F_link_moved := c.fun_ X G 24 rfl (hf _ (by unfold fa0; simp))
    F_links_beside := c.fun_ X G 25 rfl (hf _ (by unfold fa0; simp))
    F__law_box := c.fun_ X G 26 rfl (hf _ (by unfold fa0; simp))
    F__law_take := c.fun_ X G 27 rfl (hf _ (by unfold fa0; simp))
    F__law_cells := c.fun_ X G 28 rfl (hf _ (by unfold fa0; simp))
    F__law_of := c.fun_ X G 29 rfl (hf _ (by unfold fa0; simp))
    F__law_all_links := c.fun_ X G 30 rfl (hf _ (by unfold fa0; simp))
    F_law := c.fun_ X G 31 rfl (hf _ (by unfold fa0; simp))
    c_MOST := c.int X G (hf _ (by unfold fa0; simp)) }
end Rx.K70
open PySem PySem.W PySem.Calls PyProof.Rows
theorem PySem.Challenge.cw_kissroads_k70_across_links_and_bits_holds : PySem.Challenge.rw_kissroads_k70_across_links_and_bits.Holds := by
  w_on; o_law
  refine HandSHeadRun.head_any (r := OpenLaw.row PySem.Challenge.rw_kissroads_k70_across_links_and_bits) (q := view (OpenLaw.row PySem.Challenge.rw_kissroads_k70_across_links_and_bits).prog [40]) (H := Rx.K70.hk) (ob := Rx.K70.ob) (M := 1640) (loose := Rx.K70.loose) (d := HandSHeadRun.topDef (OpenLaw.row PySem.Challenge.rw_kissroads_k70_across_links_and_bits).prog 40) (kwd := []) Rx.K70.ob_eq
    (by kernel_rfl) (fun s => by kernel_rfl) Rx.K70.run (by kernel_rfl) (by kernel_rfl) (by kernel_rfl) (by rfl) (by first | assumption | decide +kernel) (by decide +kernel) ⟨rfl, rfl, rfl, rfl, rfl, by decide +kernel⟩ ?hw ?hc
  case hw => w_witness2
  case hc =>
    refine L2.walk_ofE (l := PySem.Challenge.rw_kissroads_k70_across_links_and_bits) (n := 63) (k := 12) (x := "script") (CX := L2.CX0) rfl (by decide) (by kernel_rfl) ⟨rfl, by decide, by decide⟩ ?F (fun _ _ _ _ z => z)
    intro w mg fa h Y G hmg0
    obtain ⟨K, KX, c⟩ := Y
    have hmg : mg ("law" : PySem.Str) = some (.ref fa) := by
      have e : (HandSHeadRun.topDef (OpenLaw.row PySem.Challenge.rw_kissroads_k70_across_links_and_bits).prog 40).name = ("law" : PySem.Str) := by kernel_rfl
      rw [← e]
      exact hmg0
    have hh := Rx.K70.hh_of KX G c
    have hB := c.bn KX G fun x hx => List.mem_append_right _ (List.mem_map.mpr ⟨x, hx, rfl⟩)
    obtain ⟨a, fd, FT, hm2⟩ := hh.F_law
    have ea : a = fa := by
      have := hm2.symm.trans hmg
      cases this
      rfl
    subst ea
    refine ⟨K, fd, Rx.lP K 1 Rx.K70.f_law, KX, fun s u => ?_, fun H a ns hl hO hS => Rx.lP_law hO hS (Rx.K70.law_true ns hl), fun base _ _ => Rx.K70.fn_law hh hB FT⟩
    exact Rx.K70.bind_law FT s u
