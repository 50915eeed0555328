/- BeltBounds: for every input the law answers true and its arguments read as before; no condition. Part 1 of 6: SepA, SepB, SepC, SepD, SepE, SepF, SepG, SepH, SepI, SepJ, SepK, BData. -/
import Derived.RangeFuncLeaves
import Derived.TacticsIn
import Derived.OrdersIn
import Derived.Laws.AppendOwn
import Derived.Laws.MakeOwn
import Derived.Laws.NewDeep
import Derived.Laws.Small
import Derived.Laws.StructEq
import Derived.Laws.Unary
import Derived.Below
import Derived.KernelRfl
import Derived.ChangeKeysEq
import Derived.Scope
set_option linter.unusedSimpArgs false
set_option linter.unusedVariables false
/- Heaps in parts: what is known of memory and cannot change, and chunks of memory that are owned; states of a walk in these words. -/
namespace Go.Sx

abbrev Heap := Nat → Option Obj
abbrev HP := Heap → Prop

def Heap.emp : Heap := fun _ => none
def Heap.one (b : Nat) (o : Obj) : Heap := fun x => if x = b then some o else none
def Heap.un (h k : Heap) : Heap := fun b => (h b).or (k b)
def Heap.sub (h k : Heap) : Prop := ∀ b o, h b = some o → k b = some o
def Heap.disj (h k : Heap) : Prop := ∀ b, h b = none ∨ k b = none
def Heap.without (h : Heap) (b : Nat) : Heap := fun x => if x = b then none else h x
def Sat (h : Heap) (w : World) : Prop := ∀ b o, h b = some o → w.heap[b]? = some o

theorem Heap.sub.refl (h : Heap) : h.sub h := fun _ _ x => x
theorem Heap.sub.trans {h k l : Heap} (a : h.sub k) (b : k.sub l) : h.sub l := fun x o e => b x o (a x o e)
theorem Heap.disj.symm {h k : Heap} (d : h.disj k) : k.disj h := fun b => (d b).symm
theorem Heap.disj.anti {h k h' k' : Heap} (d : h.disj k) (a : h'.sub h) (b : k'.sub k) : h'.disj k' := fun x => by
  rcases d x with e | e
  · left
    cases e' : h' x with
    | none => rfl
    | some o => rw [a x o e'] at e; cases e
  · right
    cases e' : k' x with
    | none => rfl
    | some o => rw [b x o e'] at e; cases e
theorem Heap.emp_disj (h : Heap) : Heap.emp.disj h := fun _ => .inl rfl
theorem Heap.disj_emp (h : Heap) : h.disj Heap.emp := fun _ => .inr rfl
theorem Heap.emp_un (h : Heap) : Heap.emp.un h = h := funext fun b => by simp [Heap.un, Heap.emp]
theorem Heap.un_emp (h : Heap) : h.un Heap.emp = h := funext fun b => by simp [Heap.un, Heap.emp]
theorem Heap.un_left (h k : Heap) : h.sub (h.un k) := fun b o e => by simp [Heap.un, e]
theorem Heap.un_right {h k : Heap} (d : h.disj k) : k.sub (h.un k) := fun b o e => by
  rcases d b with x | x
  · simp [Heap.un, x, e]
  · rw [x] at e; cases e
theorem Heap.un_comm {h k : Heap} (d : h.disj k) : h.un k = k.un h := funext fun b => by
  rcases d b with x | x <;> simp [Heap.un, x]
theorem Heap.un_assoc (h k l : Heap) : (h.un k).un l = h.un (k.un l) := funext fun b => by
  simp only [Heap.un]; cases h b <;> simp
theorem Heap.disj_un {h k l : Heap} (d : h.disj k) (e : h.disj l) : h.disj (k.un l) := fun b => by
  rcases d b with x | x
  · exact .inl x
  · rcases e b with y | y
    · exact .inl y
    · right; simp [Heap.un, x, y]
theorem Heap.un_disj {h k l : Heap} (d : k.disj h) (e : l.disj h) : (k.un l).disj h := (Heap.disj_un d.symm e.symm).symm
theorem Heap.un_sub {h k l : Heap} (a : h.sub l) (b : k.sub l) : (h.un k).sub l := fun x o e => by
  simp only [Heap.un] at e
  cases e' : h x with
  | none => rw [e'] at e; exact b x o (by simpa using e)
  | some o' => rw [e'] at e; simp only [Option.some_or, Option.some.injEq] at e; subst e; exact a x _ e'
theorem Sat.mono {h k : Heap} {w : World} (s : Sat k w) (a : h.sub k) : Sat h w := fun b o e => s b o (a b o e)
theorem Sat.un {h k : Heap} {w : World} (a : Sat h w) (b : Sat k w) : Sat (h.un k) w := fun x o e => by
  simp only [Heap.un] at e
  cases e' : h x with
  | none => rw [e'] at e; exact b x o (by simpa using e)
  | some o' => rw [e'] at e; simp only [Option.some_or, Option.some.injEq] at e; subst e; exact a x _ e'
theorem Sat.emp (w : World) : Sat Heap.emp w := fun b o e => by cases e
theorem Sat.lt {h : Heap} {w : World} (s : Sat h w) {b : Nat} {o : Obj} (e : h b = some o) : b < w.heap.size :=
  (Array.getElem?_eq_some_iff.1 (s b o e)).1
theorem Heap.one_same (b : Nat) (o : Obj) : Heap.one b o b = some o := by simp [Heap.one]
theorem Heap.one_eq {b x : Nat} {o o' : Obj} (e : Heap.one b o x = some o') : x = b ∧ o' = o := by
  unfold Heap.one at e; split at e
  · exact ⟨‹_›, by simpa using e.symm⟩
  · cases e
theorem Heap.one_disj {b : Nat} {o : Obj} {h : Heap} (e : h b = none) : (Heap.one b o).disj h := fun x => by
  by_cases hx : x = b
  · subst hx; exact .inr e
  · left; simp [Heap.one, hx]
theorem Heap.disj_one {b : Nat} {o : Obj} {h : Heap} (d : (Heap.one b o).disj h) : h b = none := by
  rcases d b with e | e
  · rw [Heap.one_same] at e; cases e
  · exact e
theorem Sat.one {b : Nat} {o : Obj} {w : World} (e : w.heap[b]? = some o) : Sat (Heap.one b o) w := fun x o' h => by
  obtain ⟨rfl, rfl⟩ := Heap.one_eq h; exact e
theorem Sat.none_of_ge {h : Heap} {w : World} (s : Sat h w) {b : Nat} (hb : w.heap.size ≤ b) : h b = none := by
  cases e : h b with
  | none => rfl
  | some o => have := s.lt e; omega

/-- A list of chunks holds of a part of memory: it falls into as many parts, apart from one another. -/
def SepL : List HP → HP
  | [], k => k = Heap.emp
  | p :: Γ, k => ∃ k1 k2, p k1 ∧ SepL Γ k2 ∧ k1.disj k2 ∧ k = k1.un k2

theorem SepL.append {Γ Δ : List HP} {k : Heap} : SepL (Γ ++ Δ) k ↔ ∃ k1 k2, SepL Γ k1 ∧ SepL Δ k2 ∧ k1.disj k2 ∧ k = k1.un k2 := by
  induction Γ generalizing k with
  | nil =>
    constructor
    · intro h; exact ⟨Heap.emp, k, rfl, h, Heap.emp_disj _, (Heap.emp_un _).symm⟩
    · rintro ⟨k1, k2, rfl, h, _, rfl⟩; rw [Heap.emp_un]; exact h
  | cons p Γ ih =>
    constructor
    · rintro ⟨a, b, hp, hb, hd, rfl⟩
      obtain ⟨c, d, hc, hd', hcd, rfl⟩ := ih.1 hb
      exact ⟨a.un c, d, ⟨a, c, hp, hc, hd.anti (Heap.sub.refl _) (Heap.un_left _ _), rfl⟩, hd', Heap.un_disj (hd.anti (Heap.sub.refl _) (Heap.un_right hcd)) hcd, (Heap.un_assoc _ _ _).symm⟩
    · rintro ⟨_, d, ⟨a, c, hp, hc, hac, rfl⟩, hd, hcd, rfl⟩
      have had : a.disj d := hcd.anti (Heap.un_left _ _) (Heap.sub.refl _)
      have hcd' : c.disj d := hcd.anti (Heap.un_right hac) (Heap.sub.refl _)
      exact ⟨a, c.un d, hp, ih.2 ⟨c, d, hc, hd, hcd', rfl⟩, Heap.disj_un hac had, Heap.un_assoc _ _ _⟩

theorem SepL.swap {Γ Δ : List HP} {k : Heap} (h : SepL (Γ ++ Δ) k) : SepL (Δ ++ Γ) k := by
  obtain ⟨a, b, ha, hb, hd, rfl⟩ := SepL.append.1 h
  exact SepL.append.2 ⟨b, a, hb, ha, hd.symm, Heap.un_comm hd⟩

theorem SepL.perm {Γ Δ : List HP} (p : Γ.Perm Δ) {k : Heap} : SepL Γ k → SepL Δ k := by
  induction p generalizing k with
  | nil => exact id
  | cons x _ ih => rintro ⟨a, b, ha, hb, hd, rfl⟩; exact ⟨a, b, ha, ih hb, hd, rfl⟩
  | swap x y l =>
    rintro ⟨a, _, ha, ⟨b, c, hb, hc, hbc, rfl⟩, hd, rfl⟩
    have hab : a.disj b := hd.anti (Heap.sub.refl _) (Heap.un_left _ _)
    have hac : a.disj c := hd.anti (Heap.sub.refl _) (Heap.un_right hbc)
    exact ⟨b, a.un c, hb, ⟨a, c, ha, hc, hac, rfl⟩, Heap.disj_un hab.symm hbc, by rw [← Heap.un_assoc, ← Heap.un_assoc, Heap.un_comm hab]⟩
  | trans _ _ i j => exact fun h => j (i h)

/-- What a world has beside its memory that a call must not turn. -/
structure SameEnv (E w : World) : Prop where
  os : w.os = E.os
  tape : w.tape = E.tape
  output : w.output = E.output

theorem SameEnv.refl (w : World) : SameEnv w w := ⟨rfl, rfl, rfl⟩

/-- The frame of a call: what is there besides. -/
abbrev Fr := World × List HP

/-- The state of a walk: the part h of memory cannot change, the chunks Γ are owned. -/
def St (Φ : Fr) (h : Heap) (Γ : List HP) (w : World) : Prop :=
  ∃ k, SepL (Γ ++ Φ.2) k ∧ h.disj k ∧ Sat h w ∧ Sat k w ∧ SameEnv Φ.1 w

def Heap.ofWorld (w : World) : Heap := fun b => w.heap[b]?

theorem St.start (w : World) : St (w, []) (Heap.ofWorld w) [] w :=
  ⟨Heap.emp, rfl, Heap.disj_emp _, fun _ _ e => e, Sat.emp _, SameEnv.refl _⟩

theorem St.perm {Φ : Fr} {h : Heap} {Γ Δ : List HP} {w : World} (p : Γ.Perm Δ) (s : St Φ h Γ w) : St Φ h Δ w := by
  obtain ⟨k, a, b⟩ := s
  exact ⟨k, SepL.perm (p.append_right _) a, b⟩

theorem St.sat {Φ : Fr} {h : Heap} {Γ : List HP} {w : World} (s : St Φ h Γ w) : Sat h w := s.choose_spec.2.2.1

/-- The part of the chunks behind Γ goes into the frame, and back. -/
theorem St.frame {Φ : Fr} {h : Heap} {Γ Δ : List HP} {w : World} : St Φ h (Γ ++ Δ) w ↔ St (Φ.1, Δ ++ Φ.2) h Γ w := by
  unfold St; simp only [List.append_assoc]

theorem St.heap {Φ : Fr} {h h' : Heap} {Γ : List HP} {w : World} (s : St Φ h Γ w) (a : h'.sub h) : St Φ h' Γ w := by
  obtain ⟨k, x, y, z, u, v⟩ := s
  exact ⟨k, x, y.anti a (Heap.sub.refl _), z.mono a, u, v⟩

theorem St.drop {Φ : Fr} {h : Heap} {p : HP} {Γ : List HP} {w : World} (s : St Φ h (p :: Γ) w) : St Φ h Γ w := by
  obtain ⟨k, ⟨k1, k2, hp, h2, hd, rfl⟩, y, z, u, v⟩ := s
  exact ⟨k2, h2, y.anti (Heap.sub.refl _) (Heap.un_right hd), z, u.mono (Heap.un_right hd), v⟩

/-- The first chunk, with what it holds of, and the rest as a frame for it. -/
theorem St.head {Φ : Fr} {h : Heap} {p : HP} {Γ : List HP} {w : World} (s : St Φ h (p :: Γ) w) :
    ∃ k1 k2, p k1 ∧ SepL (Γ ++ Φ.2) k2 ∧ k1.disj k2 ∧ h.disj k1 ∧ h.disj k2 ∧ Sat h w ∧ Sat k1 w ∧ Sat k2 w ∧ SameEnv Φ.1 w := by
  obtain ⟨k, ⟨k1, k2, hp, h2, hd, rfl⟩, y, z, u, v⟩ := s
  exact ⟨k1, k2, hp, h2, hd, y.anti (Heap.sub.refl _) (Heap.un_left _ _), y.anti (Heap.sub.refl _) (Heap.un_right hd), z, u.mono (Heap.un_left _ _), u.mono (Heap.un_right hd), v⟩
theorem St.mk {Φ : Fr} {h : Heap} {p : HP} {Γ : List HP} {w : World} {k1 k2 : Heap} (hp : p k1) (h2 : SepL (Γ ++ Φ.2) k2) (hd : k1.disj k2) (d1 : h.disj k1) (d2 : h.disj k2)
    (s : Sat h w) (s1 : Sat k1 w) (s2 : Sat k2 w) (e : SameEnv Φ.1 w) : St Φ h (p :: Γ) w :=
  ⟨k1.un k2, ⟨k1, k2, hp, h2, hd, rfl⟩, Heap.disj_un d1 d2, s, s1.un s2, e⟩

/-- A chunk that holds of one block alone. -/
def box (b : Nat) (T : TypeId) (cs : List Value) : HP := fun k => k = Heap.one b (.cells cs.toArray T (0, 0))
/-- A chunk that holds of one block, whatever it is. -/
def blk (b : Nat) (o : Obj) : HP := fun k => k = Heap.one b o

/-- A change of the world that turns the blocks of one part alone: the first chunk is put in its place by another one. -/
theorem St.turn {Φ : Fr} {h : Heap} {p q : HP} {Γ : List HP} {w w' : World} (s : St Φ h (p :: Γ) w)
    (ht : ∀ k1, p k1 → Sat k1 w → ∃ k1', q k1' ∧ Sat k1' w' ∧ (∀ b, k1' b ≠ none → k1 b ≠ none ∨ w.heap.size ≤ b) ∧ (∀ b, k1 b = none → b < w.heap.size → w'.heap[b]? = w.heap[b]?))
    (he : SameEnv w w') : St Φ h (q :: Γ) w' := by
  obtain ⟨k1, k2, hp, h2, hd, d1, d2, s0, s1, s2, e⟩ := s.head
  obtain ⟨k1', hq, sq, hfoot, hsame⟩ := ht k1 hp s1
  have apart : ∀ l : Heap, k1.disj l → Sat l w → k1'.disj l := fun l hl sl b => by
    by_cases hb : k1' b = none
    · exact .inl hb
    · rcases hfoot b hb with x | x
      · exact .inr ((hl b).resolve_left x)
      · exact .inr (sl.none_of_ge x)
  have stay : ∀ l : Heap, k1.disj l → Sat l w → Sat l w' := fun l hl sl b o eo => by
    have hb : k1 b = none := (hl b).resolve_right (by rw [eo]; simp)
    rw [hsame b hb (sl.lt eo)]
    exact sl b o eo
  exact St.mk hq h2 (apart k2 hd s2) (apart h d1.symm s0).symm d2 (stay h d1.symm s0) sq (stay k2 hd s2) ⟨he.os.trans e.os, he.tape.trans e.tape, he.output.trans e.output⟩

/-- A new block. -/
theorem St.alloc {Φ : Fr} {h : Heap} {Γ : List HP} {w : World} (o : Obj) (s : St Φ h Γ w) : St Φ h (blk w.heap.size o :: Γ) (w.alloc o) := by
  obtain ⟨k, hs, hd, s0, s1, e⟩ := s
  have hk : ∀ l : Heap, Sat l w → Sat l (w.alloc o) := fun l sl b o' eo => by
    have := sl.lt eo
    rw [RowKit.Below.heap_alloc w o b this]; exact sl b o' eo
  exact St.mk (k1 := Heap.one w.heap.size o) (k2 := k) rfl hs (Heap.one_disj (s1.none_of_ge (Nat.le_refl _))) (Heap.one_disj (s0.none_of_ge (Nat.le_refl _))).symm hd (hk h s0)
    (Sat.one (heap_alloc_new w o)) (hk k s1) ⟨e.os, e.tape, e.output⟩

/-- The first chunk's block cannot change any more: it goes to the known part. -/
theorem St.freeze {Φ : Fr} {h : Heap} {b : Nat} {o : Obj} {Γ : List HP} {w : World} (s : St Φ h (blk b o :: Γ) w) : St Φ (h.un (Heap.one b o)) Γ w ∧ h b = none := by
  obtain ⟨k1, k2, hp, h2, hd, d1, d2, s0, s1, s2, e⟩ := s.head
  simp only [blk] at hp
  subst hp
  exact ⟨⟨k2, h2, Heap.un_disj d2 hd, s0.un s1, s2, e⟩, Heap.disj_one d1.symm⟩

/-- A block of the known part is owned from now on: what is known of it is known no more. -/
theorem St.thaw {Φ : Fr} {h : Heap} {b : Nat} {o : Obj} {Γ : List HP} {w : World} (hb : h b = some o) (s : St Φ h Γ w) : St Φ (h.without b) (blk b o :: Γ) w := by
  obtain ⟨k, hs, hd, s0, s1, e⟩ := s
  have hsub : (h.without b).sub h := fun x o' hx => by
    unfold Heap.without at hx; split at hx
    · cases hx
    · exact hx
  have hkb : k b = none := (hd b).resolve_left (by rw [hb]; simp)
  exact St.mk (k1 := Heap.one b o) (k2 := k) rfl hs (Heap.one_disj hkb) (Heap.one_disj (by simp [Heap.without])).symm (hd.anti hsub (Heap.sub.refl _)) (s0.mono hsub) (Sat.one (s0 b o hb)) s1 e

/-- What the first chunk says in pure words. -/
theorem St.pure_of {Φ : Fr} {h : Heap} {p : HP} {Γ : List HP} {w : World} (s : St Φ h (p :: Γ) w) : ∃ k, p k ∧ Sat k w := by
  obtain ⟨k1, _, hp, _, _, _, _, _, s1, _⟩ := s.head
  exact ⟨k1, hp, s1⟩
theorem St.imp {Φ : Fr} {h : Heap} {p q : HP} {Γ : List HP} {w : World} (s : St Φ h (p :: Γ) w) (hi : ∀ k, p k → q k) : St Φ h (q :: Γ) w := by
  obtain ⟨k1, k2, hp, r⟩ := s.head
  exact St.mk (hi _ hp) r.1 r.2.1 r.2.2.1 r.2.2.2.1 r.2.2.2.2.1 r.2.2.2.2.2.1 r.2.2.2.2.2.2.1 r.2.2.2.2.2.2.2

/-- Blocks of two chunks, and of a chunk and the known part, are different. -/
theorem St.ne {Φ : Fr} {h : Heap} {b c : Nat} {o o' : Obj} {Γ : List HP} {w : World} (s : St Φ h (blk b o :: blk c o' :: Γ) w) : b ≠ c := by
  obtain ⟨k1, k2, hp, ⟨k3, k4, hq, _, _, rfl⟩, hd, _⟩ := s.head
  simp only [blk] at hp hq
  subst hp hq
  intro e
  subst e
  rcases hd b with x | x <;> simp [Heap.un, Heap.one] at x
theorem St.none {Φ : Fr} {h : Heap} {b : Nat} {o : Obj} {Γ : List HP} {w : World} (s : St Φ h (blk b o :: Γ) w) : h b = none := s.freeze.2

end Go.Sx

/- The walk in these words: what is known of a frame, judgements, control, calls, returns, loops. -/
namespace Go.Sx

abbrev Env := List (Nat × Value)
def Env.get : Env → Nat → Option Value
  | [], _ => none
  | (t', v) :: ρ, t => bif Nat.beq t' t then some v else Env.get ρ t
def Env.ev (ρ : Env) : Operand → Option Value
  | .tmp t => ρ.get t
  | .const v => some v
  | .global g => some (.pointer (some ⟨g, 0, none⟩))
  | .func f => some (.func (.func f) #[] #[])
def Env.evs (ρ : Env) : List Operand → Option (List Value)
  | [] => some []
  | x :: xs => match ρ.ev x with
    | some v => match ρ.evs xs with
      | some vs => some (v :: vs)
      | none => none
    | none => none

structure EnvOK (n : Nat) (a : Act) (ρ : Env) : Prop where
  size : a.tmps.size = n
  get : ∀ t v, ρ.get t = some v → a.tmps[t]? = some v

theorem EnvOK.ev {n : Nat} {a : Act} {ρ : Env} (h : EnvOK n a ρ) {x : Operand} {v : Value} (e : ρ.ev x = some v) : a.eval x = v := by
  cases x with
  | tmp t =>
    have := h.get t v e
    simp [Act.eval, Array.getD_eq_getD_getElem?, this]
  | const u => simpa [Env.ev, Act.eval] using e
  | global g => simpa [Env.ev, Act.eval] using e
  | func f => simpa [Env.ev, Act.eval] using e
theorem EnvOK.evs {n : Nat} {a : Act} {ρ : Env} (h : EnvOK n a ρ) : ∀ {xs : List Operand} {vs : List Value}, ρ.evs xs = some vs → xs.map a.eval = vs
  | [], vs, e => by simpa [Env.evs] using e
  | x :: xs, vs, e => by
    simp only [Env.evs] at e
    split at e
    · rename_i v hv
      split at e
      · rename_i us hus
        simp only [Option.some.injEq] at e
        subst e
        simp [h.ev hv, h.evs hus]
      · cases e
    · cases e
theorem EnvOK.put {n : Nat} {a : Act} {ρ : Env} (h : EnvOK n a ρ) {d : Nat} (hd : Nat.blt d n = true) (v : Value) : EnvOK n (a.put (some d) v) ((d, v) :: ρ) := by
  have hd' : d < n := by simpa [Nat.blt_eq] using hd
  refine ⟨by simp [Act.put, h.size], fun t u e => ?_⟩
  simp only [Env.get] at e
  simp only [Act.put, Array.getElem?_setIfInBounds, h.size]
  by_cases hdt : d = t
  · subst hdt; simp only [Nat.beq_refl, cond_true] at e; simp [hd', e]
  · have : Nat.beq d t = false := by
      cases hb : Nat.beq d t with
      | false => rfl
      | true => exact absurd (Nat.eq_of_beq_eq_true hb) hdt
    simp only [this, cond_false] at e
    simp only [hdt, if_false]
    exact h.get t u e
theorem EnvOK.put_none {n : Nat} {a : Act} {ρ : Env} (h : EnvOK n a ρ) (v : Value) : EnvOK n (a.put none v) ρ := h

/-- What ρ' says ρ says too. -/
def EnvSub (ρ : Env) : Env → Prop
  | [] => True
  | (t, v) :: ρ' => ρ.get t = some v ∧ EnvSub ρ ρ'
theorem EnvSub.get {ρ : Env} : ∀ {ρ' : Env}, EnvSub ρ ρ' → ∀ t v, ρ'.get t = some v → ρ.get t = some v
  | [], _, t, v, e => by cases e
  | (t', u) :: ρ', ⟨h, hs⟩, t, v, e => by
    simp only [Env.get] at e
    cases hb : Nat.beq t' t with
    | true => rw [hb] at e; simp only [cond_true, Option.some.injEq] at e; subst e; rw [← Nat.eq_of_beq_eq_true hb]; exact h
    | false => rw [hb] at e; exact EnvSub.get hs t v e
theorem EnvOK.sub {n : Nat} {a : Act} {ρ ρ' : Env} (h : EnvOK n a ρ) (s : EnvSub ρ ρ') : EnvOK n a ρ' := ⟨h.size, fun t v e => h.get t v (s.get t v e)⟩

/-- The mark that a range over a function leaves among the deferred calls. -/
def mark (r : Nat) : Deferred := { target := .collected r, args := #[] }
def Marks (rs : List Nat) : List HP := rs.map fun r => blk r (.deferred (some []))
def fence (rd : Option Nat) : Fence := { fn := fun _ => True, depth := none, alive := false, round := rd }
theorem fence_none : fence none = Fence.wide := rfl
abbrev World.putO (w : World) (r : Nat) (o : Obj) : World := { w with heap := w.heap.setIfInBounds r o }

/-- In every frame that ρ describes and every world that h and Γ describe, T holds. -/
def En (n : Nat) (Φ : Fr) (T : Act → World → Prop) (ρ : Env) (h : Heap) (Γ : List HP) : Prop :=
  ∀ (a : Act) (w : World) (rs : List Nat), EnvOK n a ρ → a.defers = rs.map mark → St (Φ.1, Marks rs ++ Φ.2) h Γ w → T a w

section control
variable {n : Nat} {Φ : Fr} {P : Program} {F : Fence} {Q : Exit → Act → World → Prop} {ρ : Env} {h : Heap} {Γ : List HP}

theorem en_seq {x y : Code} (H : En n Φ (x.wpIn F 0 P (Exit.then (y.wpIn F 0 P Q) Q)) ρ h Γ) : En n Φ ((Code.seq x y).wpIn F 0 P Q) ρ h Γ :=
  fun a w rs e d s => wpIn_seq (H a w rs e d s)
theorem en_skip (H : En n Φ (Q .normal) ρ h Γ) : En n Φ (Code.skip.wpIn F 0 P Q) ρ h Γ := fun a w rs e d s => wpIn_skip (H a w rs e d s)
theorem en_exit {id : Nat} (H : En n Φ (Q (.exit id)) ρ h Γ) : En n Φ ((Code.exit id).wpIn F 0 P Q) ρ h Γ := fun a w rs e d s => wpIn_exit (H a w rs e d s)
theorem en_ret (H : En n Φ (Q .ret) ρ h Γ) : En n Φ (Code.ret.wpIn F 0 P Q) ρ h Γ := fun a w rs e d s => wpIn_ret (H a w rs e d s)
theorem en_block {id : Nat} {c : Code} (H : En n Φ (c.wpIn F 0 P (Exit.inBlock id Q)) ρ h Γ) : En n Φ ((Code.block id c).wpIn F 0 P Q) ρ h Γ :=
  fun a w rs e d s => wpIn_block (H a w rs e d s)
theorem en_cond_t {c : Operand} {x y : Code} (hc : ρ.ev c = some (.bool true)) (H : En n Φ (x.wpIn F 0 P Q) ρ h Γ) : En n Φ ((Code.cond c x y).wpIn F 0 P Q) ρ h Γ :=
  fun a w rs e d s => wpIn_cond_true (e.ev hc) (H a w rs e d s)
theorem en_cond_f {c : Operand} {x y : Code} (hc : ρ.ev c = some (.bool false)) (H : En n Φ (y.wpIn F 0 P Q) ρ h Γ) : En n Φ ((Code.cond c x y).wpIn F 0 P Q) ρ h Γ :=
  fun a w rs e d s => wpIn_cond_false (e.ev hc) (H a w rs e d s)
theorem en_cond {c : Operand} {x y : Code} {t : Bool} (hc : ρ.ev c = some (.bool t)) (ht : t = true → En n Φ (x.wpIn F 0 P Q) ρ h Γ) (hf : t = false → En n Φ (y.wpIn F 0 P Q) ρ h Γ) :
    En n Φ ((Code.cond c x y).wpIn F 0 P Q) ρ h Γ :=
  fun a w rs e d s => wpIn_cond_split (e.ev hc) (fun x => ht x a w rs e d s) (fun x => hf x a w rs e d s)
theorem en_region {id : Nat} {l : List Oper} (H : En n Φ (wpListIn F 0 P l.toArray Q l) ρ h Γ) : En n Φ ((Code.region id l.toArray false).wpIn F 0 P Q) ρ h Γ :=
  fun a w rs e d s => wpIn_region_lit (H a w rs e d s)
theorem en_nil {ops : Array Oper} (H : En n Φ (Q .normal) ρ h Γ) : En n Φ (wpListIn F 0 P ops Q []) ρ h Γ := H

theorem en_then {K : Act → World → Prop} (H : En n Φ K ρ h Γ) : En n Φ (Exit.then K Q .normal) ρ h Γ := H
theorem en_then_exit {K : Act → World → Prop} {i : Nat} (H : En n Φ (Q (.exit i)) ρ h Γ) : En n Φ (Exit.then K Q (.exit i)) ρ h Γ := H
theorem en_then_ret {K : Act → World → Prop} (H : En n Φ (Q .ret) ρ h Γ) : En n Φ (Exit.then K Q .ret) ρ h Γ := H
theorem en_blk {i : Nat} (H : En n Φ (Q .normal) ρ h Γ) : En n Φ (Exit.inBlock i Q .normal) ρ h Γ := H
theorem en_blk_ret {i : Nat} (H : En n Φ (Q .ret) ρ h Γ) : En n Φ (Exit.inBlock i Q .ret) ρ h Γ := H
theorem en_blk_hit {i : Nat} (H : En n Φ (Q .normal) ρ h Γ) : En n Φ (Exit.inBlock i Q (.exit i)) ρ h Γ :=
  fun a w rs e d s => by show (if i = i then Q .normal a w else Q (.exit i) a w); rw [if_pos rfl]; exact H a w rs e d s
theorem en_blk_miss {i j : Nat} (hne : Nat.beq j i = false) (H : En n Φ (Q (.exit j)) ρ h Γ) : En n Φ (Exit.inBlock i Q (.exit j)) ρ h Γ :=
  fun a w rs e d s => by
    show (if j = i then Q .normal a w else Q (.exit j) a w)
    rw [if_neg (fun x => by subst x; rw [Nat.beq_refl] at hne; cases hne)]; exact H a w rs e d s

variable {T : Act → World → Prop}
theorem en_env (ρ' : Env) (s : EnvSub ρ ρ') (H : En n Φ T ρ' h Γ) : En n Φ T ρ h Γ := fun a w rs e d x => H a w rs (e.sub s) d x
theorem en_perm {Γ' : List HP} (p : Γ.Perm Γ') (H : En n Φ T ρ h Γ') : En n Φ T ρ h Γ := fun a w rs e d x => H a w rs e d (x.perm p)
theorem en_drop {p : HP} (H : En n Φ T ρ h Γ) : En n Φ T ρ h (p :: Γ) := fun a w rs e d x => H a w rs e d x.drop
theorem en_heap {h' : Heap} (s : h'.sub h) (H : En n Φ T ρ h' Γ) : En n Φ T ρ h Γ := fun a w rs e d x => H a w rs e d (x.heap s)
theorem en_imp {p q : HP} (hi : ∀ k, p k → q k) (H : En n Φ T ρ h (q :: Γ)) : En n Φ T ρ h (p :: Γ) := fun a w rs e d x => H a w rs e d (x.imp hi)
/-- What holds of every such state may be used. -/
theorem en_know {p : Prop} (hp : ∀ w Ψ, St Ψ h Γ w → p) (H : p → En n Φ T ρ h Γ) : En n Φ T ρ h Γ := fun a w rs e d x => H (hp _ _ x) a w rs e d x
theorem en_freeze {b : Nat} {o : Obj} (H : ∀ h', h.sub h' → h b = none → h' b = some o → (∀ x u, h' x = some u → x ≠ b → h x = some u) → En n Φ T ρ h' Γ) : En n Φ T ρ h (blk b o :: Γ) := fun a w rs e d x => by
  obtain ⟨y, hn⟩ := x.freeze
  refine H _ (Heap.un_left _ _) hn (by simp [Heap.un, hn, Heap.one]) (fun z u hz hne => ?_) a w rs e d y
  simp only [Heap.un] at hz
  cases hh : h z with
  | none => rw [hh] at hz; simp only [Option.none_or] at hz; exact absurd (Heap.one_eq hz).1 hne
  | some o' => rw [hh] at hz; simpa using hz
theorem en_thaw {b : Nat} {o : Obj} (hb : h b = some o) (H : ∀ h', h'.sub h → h' b = none → (∀ x u, h x = some u → x ≠ b → h' x = some u) → En n Φ T ρ h' (blk b o :: Γ)) : En n Φ T ρ h Γ := fun a w rs e d x => by
  refine H _ (fun z u hz => ?_) (by simp [Heap.without]) (fun z u hz hne => by simp [Heap.without, hne, hz]) a w rs e d (x.thaw hb)
  unfold Heap.without at hz
  split at hz
  · cases hz
  · exact hz
theorem en_ex {α : Type} {p : α → HP} (H : ∀ x, En n Φ T ρ h (p x :: Γ)) : En n Φ T ρ h ((fun k => ∃ x, p x k) :: Γ) := fun a w rs e d s => by
  obtain ⟨k1, k2, ⟨x, hp⟩, r1, r2, r3, r4, r5, r6, r7, r8⟩ := s.head
  exact H x a w rs e d (St.mk hp r1 r2 r3 r4 r5 r6 r7 r8)
theorem en_and {q : Prop} {p : HP} (H : q → En n Φ T ρ h (p :: Γ)) : En n Φ T ρ h ((fun k => q ∧ p k) :: Γ) := fun a w rs e d s => by
  obtain ⟨k1, k2, ⟨hq, hp⟩, r1, r2, r3, r4, r5, r6, r7, r8⟩ := s.head
  exact H hq a w rs e d (St.mk hp r1 r2 r3 r4 r5 r6 r7 r8)
theorem en_sep {Δ : List HP} (H : En n Φ T ρ h (Δ ++ Γ)) : En n Φ T ρ h (SepL Δ :: Γ) := fun a w rs e d s => by
  obtain ⟨k, ⟨k1, k2, hp, h2, hd, rfl⟩, y⟩ := s
  exact H a w rs e d ⟨k1.un k2, by rw [List.append_assoc]; exact SepL.append.2 ⟨k1, k2, hp, h2, hd, rfl⟩, y⟩
end control

/-! ### Picking chunks out of a list -/
class Pick (Γ : List HP) (p : HP) (Δ : outParam (List HP)) : Prop where
  perm : Γ.Perm (p :: Δ)
instance (p : HP) (Γ : List HP) : Pick (p :: Γ) p Γ := ⟨.refl _⟩
instance (priority := low) (p q : HP) (Γ Δ : List HP) [x : Pick Γ p Δ] : Pick (q :: Γ) p (q :: Δ) := ⟨(x.perm.cons q).trans (.swap p q Δ)⟩
class Tk (Γ Γ1 : List HP) (Δ : outParam (List HP)) : Prop where
  perm : Γ.Perm (Γ1 ++ Δ)
instance (Γ : List HP) : Tk Γ [] Γ := ⟨.refl _⟩
instance (Γ Δ Θ Γ1 : List HP) (p : HP) [x : Pick Γ p Δ] [y : Tk Δ Γ1 Θ] : Tk Γ (p :: Γ1) Θ := ⟨x.perm.trans (y.perm.cons p)⟩

theorem St.tk {Φ : Fr} {h : Heap} {Γ Γ1 Δ : List HP} {w : World} (t : Tk Γ Γ1 Δ) (s : St Φ h Γ w) : St (Φ.1, Δ ++ Φ.2) h Γ1 w := St.frame.1 (s.perm t.perm)
theorem St.untk {Φ : Fr} {h : Heap} {Γ1 Δ : List HP} {w : World} (s : St (Φ.1, Δ ++ Φ.2) h Γ1 w) : St Φ h (Γ1 ++ Δ) w := St.frame.2 s
theorem St.keep {Φ : Fr} {h : Heap} {Γ1 Δ : List HP} {w : World} (s : St Φ h (Γ1 ++ Δ) w) : St Φ h Γ1 w := by
  induction Δ generalizing Γ1 with
  | nil => simpa using s
  | cons p Δ ih =>
    have h1 : (Γ1 ++ p :: Δ).Perm (p :: (Γ1 ++ Δ)) := List.perm_middle
    exact ih (s.perm h1).drop

section
variable {n : Nat} {Φ : Fr} {T : Act → World → Prop} {ρ : Env} {h : Heap} {Γ : List HP}
theorem en_pick (p : HP) {Δ : List HP} [t : Pick Γ p Δ] (H : En n Φ T ρ h (p :: Δ)) : En n Φ T ρ h Γ := en_perm t.perm H
theorem en_keep (Γ1 : List HP) {Δ : List HP} [t : Tk Γ Γ1 Δ] (H : En n Φ T ρ h Γ1) : En n Φ T ρ h Γ := fun a w rs e d s => H a w rs e d (s.perm t.perm).keep
end

/-! ### A call's contract -/
/-- The function has a body (it is entered when it is called). -/
def Enters (P : Program) (f : FuncId) : Prop := ∃ fn, P.funcs[f]? = some fn ∧ (fn.name == "runtime.NumGoroutine") = false ∧ fn.body.isNone = false

/-- Called with these arguments where h is known and the chunks Γ are owned, the function returns; R is said of what it hands back, of what is known then, and of the chunks that are owned then. -/
structure CT (P : Program) (f : FuncId) (args : List Value) (h : Heap) (Γ : List HP) (R : Value → Heap → List HP → Prop) : Prop where
  enters : Enters P f
  run : ∀ (Φ : Fr) (w : World), St Φ h Γ w → Calls P f args.toArray w fun e w' => ∃ v h' Γ', e = .returned v ∧ h.sub h' ∧ R v h' Γ' ∧ St Φ h' Γ' w'

theorem CT.mono {P : Program} {f : FuncId} {args : List Value} {h : Heap} {Γ : List HP} {R R' : Value → Heap → List HP → Prop} (c : CT P f args h Γ R)
    (hr : ∀ v h' Γ', h.sub h' → R v h' Γ' → R' v h' Γ') : CT P f args h Γ R' :=
  ⟨c.enters, fun Φ w s => (c.run Φ w s).mono fun _ _ ⟨v, h', Γ', e, a, b, d⟩ => ⟨v, h', Γ', e, a, hr v h' Γ' a b, d⟩⟩

/-- One operation: from such a frame and state it yields a value, and C is said of it, of what is known then and of the chunks. -/
def OpT (P : Program) (n : Nat) (o : Oper) (ρ : Env) (h : Heap) (Γ : List HP) (C : Value → Heap → List HP → Prop) : Prop :=
  ∀ (rd : Option Nat) (Φ : Fr) (a : Act) (w : World) (K : Act → World → Prop) (Q : Exit → Act → World → Prop), EnvOK n a ρ → St Φ h Γ w →
    (∀ v h' Γ' w', h.sub h' → C v h' Γ' → St Φ h' Γ' w' → K (a.put o.dst v) w') → o.wpIn (fence rd) 0 P a w K Q

theorem OpT.mono {P : Program} {n : Nat} {o : Oper} {ρ : Env} {h : Heap} {Γ : List HP} {C C' : Value → Heap → List HP → Prop} (t : OpT P n o ρ h Γ C)
    (hc : ∀ v h' Γ', h.sub h' → C v h' Γ' → C' v h' Γ') : OpT P n o ρ h Γ C' :=
  fun rd Φ a w K Q e s hk => t rd Φ a w K Q e s fun v h' Γ' w' hs c s' => hk v h' Γ' w' hs (hc v h' Γ' hs c) s'

/-- The value is known, nothing else has turned. -/
def Det (v : Value) (h : Heap) (Γ : List HP) : Value → Heap → List HP → Prop := fun v' h' Γ' => v' = v ∧ h' = h ∧ Γ' = Γ

section ops
variable {P : Program} {n : Nat} {ρ : Env} {h : Heap} {Γ : List HP}

theorem opT_run {o : Oper} {C : Value → Heap → List HP → Prop} (hop : ∀ c, o.op ≠ .defer c)
    (H : ∀ Φ a w, EnvOK n a ρ → St Φ h Γ w → ∃ v w' h' Γ', (execOp a.eval o).run P w = .ok (.value v) w' ∧ h.sub h' ∧ C v h' Γ' ∧ St Φ h' Γ' w') : OpT P n o ρ h Γ C := by
  intro rd Φ a w K Q e s hk
  obtain ⟨v, w', h', Γ', hr, hs, hc, s'⟩ := H Φ a w e s
  refine ⟨fun f _ => trivial, ?_⟩
  rw [Oper.semAt_eq _ _ _ hop, hr]
  exact hk v h' Γ' w' hs hc s'
theorem opT_skip {o : Oper} {C : Value → Heap → List HP → Prop} (hop : ∀ c, o.op ≠ .defer c)
    (H : ∀ Φ a w, EnvOK n a ρ → St Φ h Γ w → ∃ w' h' Γ', (execOp a.eval o).run P w = .ok .skip w' ∧ h.sub h' ∧ C undef h' Γ' ∧ St Φ h' Γ' w') : OpT P n o ρ h Γ C := by
  intro rd Φ a w K Q e s hk
  obtain ⟨w', h', Γ', hr, hs, hc, s'⟩ := H Φ a w e s
  refine ⟨fun f _ => trivial, ?_⟩
  rw [Oper.semAt_eq _ _ _ hop, hr]
  exact hk undef h' Γ' w' hs hc s'
/-- An operation that only computes. -/
theorem opT_pure {o : Oper} {v : Value} (hop : ∀ c, o.op ≠ .defer c) (H : ∀ a, EnvOK n a ρ → ∀ w, (execOp a.eval o).run P w = .ok (.value v) w) : OpT P n o ρ h Γ (Det v h Γ) :=
  opT_run hop fun _ a w e s => ⟨v, w, h, Γ, H a e w, .refl _, ⟨rfl, rfl, rfl⟩, s⟩

variable {Φ : Fr} {rd : Option Nat} {Q : Exit → Act → World → Prop} {ops : Array Oper} {rest : List Oper}

theorem en_op {d : Nat} {op : Op} {ty : TypeId} {pos : String} {af : Array Edge} {C : Value → Heap → List HP → Prop} (t : OpT P n ⟨some d, op, ty, pos, af, none⟩ ρ h Γ C) (hd : Nat.blt d n = true)
    (H : ∀ v h' Γ', h.sub h' → C v h' Γ' → En n Φ (wpListIn (fence rd) 0 P ops Q rest) ((d, v) :: ρ) h' Γ') : En n Φ (wpListIn (fence rd) 0 P ops Q (⟨some d, op, ty, pos, af, none⟩ :: rest)) ρ h Γ :=
  fun a w rs e ds s => wpListIn_plain rfl fun _ hK => t rd _ a w _ Q e s fun v h' Γ' w' hs c s' => hK _ _ (H v h' Γ' hs c _ w' rs (e.put hd v) ds s')
theorem en_op0 {op : Op} {ty : TypeId} {pos : String} {af : Array Edge} {C : Value → Heap → List HP → Prop} (t : OpT P n ⟨none, op, ty, pos, af, none⟩ ρ h Γ C)
    (H : ∀ v h' Γ', h.sub h' → C v h' Γ' → En n Φ (wpListIn (fence rd) 0 P ops Q rest) ρ h' Γ') : En n Φ (wpListIn (fence rd) 0 P ops Q (⟨none, op, ty, pos, af, none⟩ :: rest)) ρ h Γ :=
  fun a w rs e ds s => wpListIn_plain rfl fun _ hK => t rd _ a w _ Q e s fun v h' Γ' w' hs c s' => hK _ _ (H v h' Γ' hs c _ w' rs (e.put_none v) ds s')
theorem en_det {d : Nat} {op : Op} {ty : TypeId} {pos : String} {af : Array Edge} {v : Value} {h' : Heap} {Γ' : List HP} (t : OpT P n ⟨some d, op, ty, pos, af, none⟩ ρ h Γ (Det v h' Γ')) (hd : Nat.blt d n = true)
    (H : En n Φ (wpListIn (fence rd) 0 P ops Q rest) ((d, v) :: ρ) h' Γ') : En n Φ (wpListIn (fence rd) 0 P ops Q (⟨some d, op, ty, pos, af, none⟩ :: rest)) ρ h Γ :=
  en_op t hd fun v' h'' Γ'' _ ⟨a, b, c⟩ => by subst a b c; exact H
theorem en_det0 {op : Op} {ty : TypeId} {pos : String} {af : Array Edge} {v : Value} {h' : Heap} {Γ' : List HP} (t : OpT P n ⟨none, op, ty, pos, af, none⟩ ρ h Γ (Det v h' Γ'))
    (H : En n Φ (wpListIn (fence rd) 0 P ops Q rest) ρ h' Γ') : En n Φ (wpListIn (fence rd) 0 P ops Q (⟨none, op, ty, pos, af, none⟩ :: rest)) ρ h Γ :=
  en_op0 t fun v' h'' Γ'' _ ⟨a, b, c⟩ => by subst b c; exact H

/-- A guarded operation whose guard says yes. -/
theorem en_g_yes {d : Option Nat} {op : Op} {ty : TypeId} {pos : String} {af : Array Edge} {j t : Nat} {want : Bool} (hj : (ops[j]?).bind (·.dst) = some t) (hv : ρ.get t = some (.bool want))
    (H : En n Φ (wpListIn (fence rd) 0 P ops Q (⟨d, op, ty, pos, af, none⟩ :: rest)) ρ h Γ) : En n Φ (wpListIn (fence rd) 0 P ops Q (⟨d, op, ty, pos, af, some (j, want)⟩ :: rest)) ρ h Γ := by
  intro a w rs e ds s
  have := H a w rs e ds s
  have hw : Region.wanted ⟨d, op, ty, pos, af, some (j, want)⟩ (yielded ops a.tmps) = true := by
    simp [Region.wanted, yielded, hj, e.get t _ hv]
  simp only [wpListIn, hw, if_true]
  simp only [wpListIn, Region.wanted, if_true] at this
  exact this
/-- A guarded operation whose guard says no. -/
theorem en_g_no {d : Nat} {op : Op} {ty : TypeId} {pos : String} {af : Array Edge} {j t : Nat} {want : Bool} (hj : (ops[j]?).bind (·.dst) = some t) (hv : ρ.get t = some (.bool (!want))) (hd : Nat.blt d n = true)
    (H : En n Φ (wpListIn (fence rd) 0 P ops Q rest) ((d, undef) :: ρ) h Γ) : En n Φ (wpListIn (fence rd) 0 P ops Q (⟨some d, op, ty, pos, af, some (j, want)⟩ :: rest)) ρ h Γ := by
  intro a w rs e ds s
  have hw : Region.wanted ⟨some d, op, ty, pos, af, some (j, want)⟩ (yielded ops a.tmps) = false := by
    simp [Region.wanted, yielded, hj, e.get t _ hv]
  simp only [wpListIn, hw, Bool.false_eq_true, if_false]
  exact ⟨fun f _ => trivial, H _ w rs (e.put hd undef) ds s⟩
theorem en_g_undef {d : Nat} {op : Op} {ty : TypeId} {pos : String} {af : Array Edge} {j t : Nat} {want : Bool} (hj : (ops[j]?).bind (·.dst) = some t) (hv : ρ.get t = some undef) (hd : Nat.blt d n = true)
    (H : En n Φ (wpListIn (fence rd) 0 P ops Q rest) ((d, undef) :: ρ) h Γ) : En n Φ (wpListIn (fence rd) 0 P ops Q (⟨some d, op, ty, pos, af, some (j, want)⟩ :: rest)) ρ h Γ := by
  intro a w rs e ds s
  have hw : Region.wanted ⟨some d, op, ty, pos, af, some (j, want)⟩ (yielded ops a.tmps) = false := by
    simp [Region.wanted, yielded, hj, e.get t _ hv, undef]
  simp only [wpListIn, hw, Bool.false_eq_true, if_false]
  exact ⟨fun f _ => trivial, H _ w rs (e.put hd undef) ds s⟩

/-- A call of a function by its contract. -/
theorem opT_call {d : Option Nat} {g : Operand} {xs : Array Operand} {ts : Array TypeId} {ty : TypeId} {pos : String} {af : Array Edge} {gd : Option (Nat × Bool)} {f : FuncId} {first cap : Array Value} {vs args : List Value} {Γ1 Δ : List HP} {R : Value → Heap → List HP → Prop}
    (hg : ρ.ev g = some (.func (.func f) first cap)) (hx : ρ.evs xs.toList = some vs) (ha : first.toList ++ vs ++ cap.toList = args) (c : CT P f args h Γ1 R) [t : Tk Γ Γ1 Δ] :
    OpT P n ⟨d, .call { callee := .value g, args := xs, argTypes := ts }, ty, pos, af, gd⟩ ρ h Γ (fun v h' Γ' => ∃ Γ2, R v h' Γ2 ∧ Γ' = Γ2 ++ Δ) := by
  intro rd Φ a w K Q e s hk
  obtain ⟨fn, hf, hn, hb⟩ := c.enters
  have hargs : (first ++ xs.map a.eval ++ cap).toList = args := by
    have := e.evs hx
    simp only [Array.toList_append, Array.toList_map, this]; exact ha
  have hargs' : first ++ xs.map a.eval ++ cap = args.toArray := by rw [← hargs]
  have hrun : (execOp a.eval ⟨d, .call { callee := .value g, args := xs, argTypes := ts }, ty, pos, af, gd⟩).run P w = .ok (.enter f args.toArray) w := by
    unfold execOp
    simp only [resolve, e.ev hg, Deferred.ofValue, invoke, callFunc, program, Sem.run_bind, Sem.run_pure, Result.andThen_ok]
    rw [hargs']
    have hn' : ¬ fn.name = "runtime.NumGoroutine" := by simpa using hn
    have hb' : ¬ fn.body = none := by intro hh; rw [hh] at hb; cases hb
    simp [Sem.run, bind, hf, hn', hb', pure]
  refine ⟨fun f _ => trivial, ?_⟩
  rw [Oper.semAt_eq _ _ _ (by simp), hrun, Oper.uponIn_enter]
  refine ⟨fun hh => (by cases hh), trivial, fun cs hr => ?_⟩
  have hwide : CallsIn (fence rd) 0 P f args.toArray w (fun e w' => ∃ v h' Γ', e = .returned v ∧ h.sub h' ∧ R v h' Γ' ∧ St (Φ.1, Δ ++ Φ.2) h' Γ' w') := by
    have h0 := callsIn_wide (n := 0).2 (c.run (Φ.1, Δ ++ Φ.2) w (s.tk t))
    cases rd with
    | none => exact h0
    | some l => exact h0
  obtain ⟨e', w', fr, ⟨v, h', Γ', he', hs, hR, s'⟩, x⟩ := hwide.2 cs hr
  subst he'
  exact ⟨.returned v, w', fr, hk v h' (Γ' ++ Δ) w' hs ⟨Γ', hR, rfl⟩ s'.untk, x⟩

end ops
end Go.Sx

/- A function's contract out of its body's walk; returns; loops. -/
namespace Go.Sx

theorem St.frame_head {E : World} {Δ : List HP} {p : HP} {h : Heap} {Γ : List HP} {w : World} : St (E, p :: Δ) h Γ w ↔ St (E, Δ) h (p :: Γ) w := by
  unfold St
  constructor
  · rintro ⟨k, a, b⟩; exact ⟨k, SepL.perm (List.perm_middle) a, b⟩
  · rintro ⟨k, a, b⟩; exact ⟨k, SepL.perm (List.perm_middle.symm) a, b⟩

theorem putO_same {w : World} {r : Nat} {o o' : Obj} (h : w.heap[r]? = some o) : (World.putO w r o').heap[r]? = some o' := by
  have := (Array.getElem?_eq_some_iff.1 h).1
  simp [World.putO, this]
theorem putO_other {w : World} {r k : Nat} {o' : Obj} (h : k ≠ r) : (World.putO w r o').heap[k]? = w.heap[k]? := by
  simp only [Array.getElem?_setIfInBounds, if_neg (Ne.symm h)]

/-- The block of the first chunk is put anew. -/
theorem St.put {Φ : Fr} {h : Heap} {r : Nat} {o o' : Obj} {Γ : List HP} {w : World} (s : St Φ h (blk r o :: Γ) w) : St Φ h (blk r o' :: Γ) (World.putO w r o') := by
  refine s.turn (fun k1 hk sk => ⟨Heap.one r o', rfl, ?_, ?_, ?_⟩) ⟨rfl, rfl, rfl⟩
  · simp only [blk] at hk; subst hk
    exact Sat.one (putO_same (sk r o (Heap.one_same r o)))
  · intro b hb; simp only [blk] at hk; subst hk
    left; unfold Heap.one at *; split at hb <;> simp_all
  · intro b hb _; simp only [blk] at hk; subst hk
    have : b ≠ r := fun e => by subst e; rw [Heap.one_same] at hb; cases hb
    exact putO_other this
theorem St.block {Φ : Fr} {h : Heap} {r : Nat} {o : Obj} {Γ : List HP} {w : World} (s : St Φ h (blk r o :: Γ) w) : w.heap[r]? = some o := by
  obtain ⟨k, hk, sk⟩ := s.pure_of
  simp only [blk] at hk; subst hk
  exact sk r o (Heap.one_same r o)

theorem run_takeDeferred' {P : Program} {w : World} {r : Nat} (h : w.heap[r]? = some (.deferred (some []))) : (Instr.takeDeferred r).run P w = .ok [] (World.putO w r (.deferred none)) := by
  simp [Instr.takeDeferred, getObj, setObj, Sem.run, bind, Sem.bind, pure, h]

theorem leaves_marks {P : Program} {fn : Func} {tmps : Array Value} {R : Ending → World → Prop} {E : World} {Δ : List HP} {h : Heap} {Γ : List HP}
    (H : ∀ w, St (E, Δ) h Γ w → LeavesInM Fence.wide 0 P fn tmps R [] .returning w) : ∀ (rs : List Nat) (w : World), St (E, Marks rs ++ Δ) h Γ w → LeavesInM Fence.wide 0 P fn tmps R (rs.map mark) .returning w
  | [], w, s => H w s
  | r :: rs, w, s => by
    have s1 : St (E, Marks rs ++ Δ) h (blk r (.deferred (some [])) :: Γ) w := St.frame_head.1 s
    refine ⟨by simp, .inl ⟨r, World.putO w r (.deferred none), rfl, run_takeDeferred' s1.block, leaves_marks H rs _ (s1.put (o' := .deferred none)).drop⟩⟩

/-- What the end of a function's body must bring. -/
def BQ (P : Program) (fn : Func) (Φ : Fr) (h0 : Heap) (R : Value → Heap → List HP → Prop) : Exit → Act → World → Prop :=
  bodyPostM Fence.wide 0 P fn fun e w' => ∃ v h' Γ', e = .returned v ∧ h0.sub h' ∧ R v h' Γ' ∧ St Φ h' Γ' w'

def argEnv : List Value → Nat → Env
  | [], _ => []
  | v :: vs, i => (i, v) :: argEnv vs (i + 1)

theorem argEnv_get : ∀ (vs : List Value) (i t : Nat) (v : Value), (argEnv vs i).get t = some v → i ≤ t ∧ vs[t - i]? = some v
  | [], i, t, v, e => by cases e
  | u :: vs, i, t, v, e => by
    simp only [argEnv, Env.get] at e
    cases hb : Nat.beq i t with
    | true =>
      rw [hb] at e
      have := Nat.eq_of_beq_eq_true hb
      subst this
      simp only [cond_true, Option.some.injEq] at e
      exact ⟨Nat.le_refl _, by simp [e]⟩
    | false =>
      rw [hb] at e
      obtain ⟨h1, h2⟩ := argEnv_get vs (i + 1) t v e
      refine ⟨by omega, ?_⟩
      have : t - i = (t - (i + 1)) + 1 := by omega
      rw [this]; simpa using h2

theorem ct_intro {P : Program} {f : FuncId} {fn : Func} {c : Code} {args : List Value} {h : Heap} {Γ : List HP} {R : Value → Heap → List HP → Prop} {n : Nat}
    (hf : P.funcs[f]? = some fn) (hname : (fn.name == "runtime.NumGoroutine") = false) (hb : fn.body = some c) (hn : fn.ntmps = n) (hl : Nat.ble args.length n = true)
    (H : ∀ Φ, En n Φ (c.wpIn (fence none) 0 P (BQ P fn Φ h R)) (argEnv args 0) h Γ) : CT P f args h Γ R := by
  refine ⟨⟨fn, hf, hname, by rw [hb]; rfl⟩, fun Φ w s => ?_⟩
  refine callsIn_wide (n := 0).1 (callsIn_of_wp_marks hf hb trivial ?_)
  have hl' : args.length ≤ n := by simpa using hl
  refine H Φ _ w [] ⟨by simp [hn]; omega, fun t v e => ?_⟩ rfl s
  obtain ⟨_, h2⟩ := argEnv_get args 0 t v e
  simp only [Nat.sub_zero] at h2
  have hlt : t < args.length := (List.getElem?_eq_some_iff.1 h2).1
  show (args.toArray ++ _)[t]? = some v
  rw [Array.getElem?_append_left (by simpa using hlt)]
  simpa using h2

/-! ### Results -/
def resOf (tmps : Array Value) : ResultVar → Sem Value
  | .tmp t => pure (tmps.getD t undef)
  | .cell a t => do loadVar t (← asAddr (tmps.getD a undef))

/-- What one result variable reads as. -/
inductive Res (P : Program) (ρ : Env) (h : Heap) (Γ : List HP) : ResultVar → Value → Prop
  | tmp {t : Tmp} {v : Value} : ρ.get t = some v → Res P ρ h Γ (.tmp t) v
  | run {r : ResultVar} {v : Value} : (∀ (n : Nat) a w Ψ, EnvOK n a ρ → St Ψ h Γ w → (resOf a.tmps r).run P w = .ok v w) → Res P ρ h Γ r v
inductive ResL (P : Program) (ρ : Env) (h : Heap) (Γ : List HP) : List ResultVar → List Value → Prop
  | nil : ResL P ρ h Γ [] []
  | cons {r : ResultVar} {v : Value} {rs : List ResultVar} {vs : List Value} : Res P ρ h Γ r v → ResL P ρ h Γ rs vs → ResL P ρ h Γ (r :: rs) (v :: vs)
def resVal : List Value → Value
  | [v] => v
  | vs => .tuple vs.toArray

theorem Res.ok {P : Program} {ρ : Env} {h : Heap} {Γ : List HP} {r : ResultVar} {v : Value} (x : Res P ρ h Γ r v) {n : Nat} {a : Act} {w : World} {Ψ : Fr} (e : EnvOK n a ρ) (s : St Ψ h Γ w) :
    (resOf a.tmps r).run P w = .ok v w := by
  cases x with
  | tmp ht =>
    have := e.get _ v ht
    simp [resOf, Array.getD_eq_getD_getElem?, this, Sem.run, pure]
  | run hr => exact hr n a w Ψ e s

theorem run_mapM_res {P : Program} {ρ : Env} {h : Heap} {Γ : List HP} {n : Nat} {a : Act} {w : World} {Ψ : Fr} (e : EnvOK n a ρ) (s : St Ψ h Γ w) :
    ∀ {rs : List ResultVar} {vs : List Value}, ResL P ρ h Γ rs vs →
      (rs.mapM (resOf a.tmps)).run P w = .ok vs w
  | [], _, .nil => rfl
  | r :: rs, _, .cons (v := v) (vs := vs) x xs => by
    have h1 := x.ok e s
    have h2 := run_mapM_res e s xs
    simp only [List.mapM_cons, Sem.run_bind]
    rw [h1]
    simp only [Result.andThen_ok, Sem.run_bind]
    rw [h2]
    rfl

theorem run_results {P : Program} {fn : Func} {ρ : Env} {h : Heap} {Γ : List HP} {n : Nat} {a : Act} {w : World} {Ψ : Fr} {rs : List ResultVar} {vs : List Value} (hr : fn.results = rs.toArray)
    (e : EnvOK n a ρ) (s : St Ψ h Γ w) (x : ResL P ρ h Γ rs vs) : (results fn a.tmps).run P w = .ok (resVal vs) w := by
  have h2 := run_mapM_res e s x
  have h3 : results fn a.tmps = (do let vs ← (fn.results).mapM (resOf a.tmps); pure (if h : vs.size = 1 then vs[0] else .tuple vs)) := rfl
  rw [h3, hr]
  simp only [List.mapM_toArray, Sem.run_bind, Sem.run_map, h2, Result.andThen_ok]
  rcases vs with _ | ⟨v, _ | ⟨u, vs⟩⟩ <;> simp [resVal, Sem.run, pure]

/-! ### Returns -/
theorem en_return {P : Program} {fn : Func} {Φ : Fr} {h0 : Heap} {R : Value → Heap → List HP → Prop} {n : Nat} {ρ : Env} {h : Heap} {Γ : List HP} {rs : List ResultVar} {vs : List Value} (hr : fn.results = rs.toArray)
    (x : ResL P ρ h Γ rs vs) (hs : h0.sub h) {Γ1 Δ : List HP} [t : Tk Γ Γ1 Δ] (hR : R (resVal vs) h Γ1) : En n Φ (BQ P fn Φ h0 R .ret) ρ h Γ := by
  intro a w rs' e d s
  show LeavesInM Fence.wide 0 P fn a.tmps _ a.defers .returning w
  rw [d]
  refine leaves_marks (h := h) (Γ := Γ) (fun w' s' => ?_) rs' w s
  exact ⟨resVal vs, run_results hr e s' x, resVal vs, h, Γ1, rfl, hs, hR, (s'.perm t.perm).keep⟩
theorem en_return_n {P : Program} {fn : Func} {Φ : Fr} {h0 : Heap} {R : Value → Heap → List HP → Prop} {n : Nat} {ρ : Env} {h : Heap} {Γ : List HP} (H : En n Φ (BQ P fn Φ h0 R .ret) ρ h Γ) : En n Φ (BQ P fn Φ h0 R .normal) ρ h Γ := H

/-! ### Loops -/
theorem exists_least (p : Nat → Prop) (h : ∃ n, p n) : ∃ n, p n ∧ ∀ m, p m → n ≤ m := by
  obtain ⟨n, hn⟩ := h
  induction n using Nat.strongRecOn with
  | _ n ih =>
    by_cases hx : ∃ m, m < n ∧ p m
    · obtain ⟨m, hm, hp⟩ := hx; exact ih m hm hp
    · exact ⟨n, hn, fun m hp => Nat.le_of_not_lt fun hlt => hx ⟨m, hlt, hp⟩⟩

/-- The state at a loop's head, at index x. -/
def Hd {ι : Type} (n : Nat) (Φ : Fr) (ρI : ι → Env) (hI : ι → Heap) (ΓI : ι → List HP) (x : ι) (a : Act) (w : World) : Prop :=
  ∃ rs, EnvOK n a (ρI x) ∧ a.defers = rs.map mark ∧ St (Φ.1, Marks rs ++ Φ.2) (hI x) (ΓI x) w
/-- A round has come back to the head, at a lesser index. -/
def Again {ι : Type} (n : Nat) (Φ : Fr) (ok : ι → Prop) (ρI : ι → Env) (hI : ι → Heap) (ΓI : ι → List HP) (μ : ι → Nat) (x : ι) (a : Act) (w : World) : Prop :=
  ∃ y, ok y ∧ μ y < μ x ∧ Hd n Φ ρI hI ΓI y a w

theorem en_again {ι : Type} {n : Nat} {Φ : Fr} {ok : ι → Prop} {ρI : ι → Env} {hI : ι → Heap} {ΓI : ι → List HP} {μ : ι → Nat} {x : ι} {ρ : Env} {h : Heap} {Γ : List HP}
    (y : ι) (hy : ok y) (hm : μ y < μ x) (hρ : EnvSub ρ (ρI y)) (hh : (hI y).sub h) {Δ : List HP} (t : Tk Γ (ΓI y) Δ) : En n Φ (Again n Φ ok ρI hI ΓI μ x) ρ h Γ :=
  fun _ _ rs e d s => ⟨y, hy, hm, rs, e.sub hρ, d, ((s.perm t.perm).keep).heap hh⟩

theorem en_loop {ι : Type} (ok : ι → Prop) (ρI : ι → Env) (hI : ι → Heap) (ΓI : ι → List HP) (μ : ι → Nat) (x0 : ι) {n : Nat} {Φ : Fr} {P : Program} {F : Fence} {Q : Exit → Act → World → Prop} {c : Code} {ρ : Env} {h : Heap} {Γ : List HP}
    (h0 : ok x0) (hρ : EnvSub ρ (ρI x0)) (hh : (hI x0).sub h) {Δ : List HP} (t : Tk Γ (ΓI x0) Δ)
    (round : ∀ x, ok x → En n Φ (c.wpIn F 0 P (Exit.then (Again n Φ ok ρI hI ΓI μ x) Q)) (ρI x) (hI x) (ΓI x)) : En n Φ ((Code.loop c).wpIn F 0 P Q) ρ h Γ := by
  intro a w rs e d s
  let I : Act → World → Prop := fun a w => ∃ x, ok x ∧ Hd n Φ ρI hI ΓI x a w
  have least : ∀ a w, I a w → ∃ m, (∃ x, ok x ∧ Hd n Φ ρI hI ΓI x a w ∧ μ x = m) ∧ ∀ m', (∃ x, ok x ∧ Hd n Φ ρI hI ΓI x a w ∧ μ x = m') → m ≤ m' :=
    fun a w ⟨x, h1, h2⟩ => exists_least _ ⟨μ x, x, h1, h2, rfl⟩
  classical
  let ν : Act → World → Nat := fun a w => if hI' : I a w then Classical.choose (least a w hI') else 0
  refine wpIn_loop I ν ⟨x0, h0, rs, e.sub hρ, d, ((s.perm t.perm).keep).heap hh⟩ fun a w hi => ?_
  have hν : ν a w = Classical.choose (least a w hi) := dif_pos hi
  obtain ⟨⟨x, hx, ⟨rs', e', d', s'⟩, hμ⟩, _⟩ := Classical.choose_spec (least a w hi)
  refine wpIn_mono (round x hx a w rs' e' d' s') fun ex a' w' hq => ?_
  cases ex with
  | normal =>
    obtain ⟨y, hy, hlt, hd⟩ := hq
    have hi' : I a' w' := ⟨y, hy, hd⟩
    refine ⟨hi', ?_⟩
    have hν' : ν a' w' = Classical.choose (least a' w' hi') := dif_pos hi'
    rw [hν', hν, ← hμ]
    exact Nat.lt_of_le_of_lt ((Classical.choose_spec (least a' w' hi')).2 _ ⟨y, hy, hd, rfl⟩) hlt
  | exit i => exact hq
  | goto i => exact hq
  | ret => exact hq
  | panic c => exact hq
  | outgrown => exact hq

/-- A piece of code whose ways meet again: what holds behind it is said once. -/
theorem en_meet {ι : Type} (ok : ι → Prop) (ρI : ι → Env) (hI : ι → Heap) (ΓI : ι → List HP) {n : Nat} {Φ : Fr} {P : Program} {F : Fence} {Q : Exit → Act → World → Prop} {x y : Code} {ρ : Env} {h : Heap} {Γ : List HP}
    (H : En n Φ (x.wpIn F 0 P (Exit.then (fun a w => ∃ z, ok z ∧ Hd n Φ ρI hI ΓI z a w) Q)) ρ h Γ)
    (K : ∀ z, ok z → En n Φ (y.wpIn F 0 P Q) (ρI z) (hI z) (ΓI z)) : En n Φ ((Code.seq x y).wpIn F 0 P Q) ρ h Γ :=
  fun a w rs e d s => wpIn_seq (wpIn_mono (H a w rs e d s) fun ex a' w' hq => by
    cases ex with
    | normal => obtain ⟨z, hz, rs', e', d', s'⟩ := hq; exact K z hz a' w' rs' e' d' s'
    | exit i => exact hq
    | goto i => exact hq
    | ret => exact hq
    | panic c => exact hq
    | outgrown => exact hq)
theorem en_met {ι : Type} {n : Nat} {Φ : Fr} {ok : ι → Prop} {ρI : ι → Env} {hI : ι → Heap} {ΓI : ι → List HP} {ρ : Env} {h : Heap} {Γ : List HP}
    (y : ι) (hy : ok y) (hρ : EnvSub ρ (ρI y)) (hh : (hI y).sub h) {Δ : List HP} (t : Tk Γ (ΓI y) Δ) : En n Φ (fun a w => ∃ z, ok z ∧ Hd n Φ ρI hI ΓI z a w) ρ h Γ :=
  fun _ _ rs e d s => ⟨y, hy, rs, e.sub hρ, d, ((s.perm t.perm).keep).heap hh⟩
end Go.Sx

/- The operations, one by one. -/
namespace Go.Sx

/-! ### What the program says of its types -/
class Ty (P : Program) (t : TypeId) (d : outParam TypeDesc) : Prop where
  und : P.underlying t = some d
/-- The cells of the zero value (so their number), the bytes. -/
class Info (P : Program) (t : TypeId) (cs : outParam (List Value)) (sz bytes : outParam Nat) : Prop where
  inf : ∃ i z, P.info? t = some i ∧ i.zero = some z ∧ z.cells = cs.toArray ∧ i.size = sz ∧ i.bytes = bytes
  len : cs.length = sz
/-- It is no struct and no array. -/
class One (P : Program) (t : TypeId) : Prop where
  one : ∃ d, P.underlying t = some d ∧ (match d with | .struct _ | .array _ _ => true | _ => false) = false
class Agg (P : Program) (t : TypeId) : Prop where
  agg : ∃ d, P.underlying t = some d ∧ (match d with | .struct _ | .array _ _ => true | _ => false) = true
class Fd (P : Program) (s : TypeId) (f : Nat) (off : outParam Nat) : Prop where
  fd : ∃ fields fld i, P.underlying s = some (.struct fields) ∧ fields[f]? = some fld ∧ fld.offset = off ∧ P.info? fld.type = some i ∧ i.size ≠ 0
class ToNat (i : Int) (k : outParam Nat) : Prop where
  eq : i.toNat = k
instance (k : Nat) : ToNat (k : Int) k := ⟨rfl⟩
instance (k : Nat) : ToNat (@OfNat.ofNat Int k instOfNat) k := ⟨rfl⟩
instance (priority := low) (i : Int) : ToNat i i.toNat := ⟨rfl⟩

theorem mk_info {P : Program} {t : TypeId} {cs : List Value} {sz bytes : Nat} {z : Value} (h : (P.info? t).map (fun i => (i.zero, i.size, i.bytes)) = some (some z, sz, bytes)) (hz : z.cells = cs.toArray) (hl : cs.length = sz) : Info P t cs sz bytes := by
  cases hi : P.info? t with
  | none => rw [hi] at h; cases h
  | some i => rw [hi] at h; simp only [Option.map_some, Option.some.injEq, Prod.mk.injEq] at h; exact ⟨⟨i, z, hi, h.1, hz, h.2.1, h.2.2⟩, hl⟩
theorem mk_fd {P : Program} {s : TypeId} {f off : Nat} {fields : Array Field} {fld : Field} (ft : TypeId) (cs : List Value) (sz b : Nat) [hi : Info P ft cs sz b] (hs : Nat.blt 0 sz = true) (hu : P.underlying s = some (.struct fields)) (hf : fields[f]? = some fld) (ho : fld.offset = off) (hft : fld.type = ft) : Fd P s f off := by
  subst hft
  obtain ⟨i, z, h1, h2, h3, h4, h5⟩ := hi.inf
  have hp : 0 < sz := by simpa [Nat.blt_eq] using hs
  exact ⟨fields, fld, i, hu, hf, ho, h1, by omega⟩

theorem addr_add (b o n : Nat) : (⟨b, o, none⟩ : Addr).add n = ⟨b, o + n, none⟩ := by
  unfold Addr.add; split
  · subst_vars; rfl
  · rfl

section
variable {P : Program} {w : World}
theorem run_und {t : TypeId} {d : TypeDesc} (h : P.underlying t = some d) : (underlying t).run P w = .ok d w := by
  simp [underlying, program, Sem.run, bind, Sem.bind, h, pure]
theorem run_info {t : TypeId} {i : TypeInfo} (h : P.info? t = some i) : (typeInfo t).run P w = .ok i w := by
  simp [typeInfo, program, Sem.run, bind, Sem.bind, h, pure]
theorem run_size {t : TypeId} {cs : List Value} {sz b : Nat} (h : Info P t cs sz b) : (sizeOf t).run P w = .ok sz w := by
  obtain ⟨i, z, h1, h2, h3, h4, h5⟩ := h.inf
  simp [sizeOf, run_info h1, h4]
theorem run_zero {t : TypeId} {cs : List Value} {sz b : Nat} (h : Info P t cs sz b) : ∃ z : Value, z.cells = cs.toArray ∧ (zeroValue t).run P w = .ok z w := by
  obtain ⟨i, z, h1, h2, h3, h4, h5⟩ := h.inf
  exact ⟨z, h3, by simp [zeroValue, run_info h1, h2]⟩
theorem run_isAgg_one {t : TypeId} (h : One P t) : (isAgg t).run P w = .ok false w := by
  obtain ⟨d, hd, he⟩ := h.one
  simp only [isAgg, Sem.run_bind, run_und hd, Result.andThen_ok]
  cases d <;> simp_all [Sem.run, pure]
theorem run_isAgg_agg {t : TypeId} (h : Agg P t) : (isAgg t).run P w = .ok true w := by
  obtain ⟨d, hd, he⟩ := h.agg
  simp only [isAgg, Sem.run_bind, run_und hd, Result.andThen_ok]
  cases d <;> simp_all [Sem.run, pure]
end

/-! ### What a state says of a cell -/
def cellH (h : Heap) (b off : Nat) : Option Value :=
  match h b with
  | some (.cells c _ _) => c[off]?
  | _ => none
theorem cellH_sub {h k : Heap} (s : h.sub k) {b off : Nat} {v : Value} (e : cellH h b off = some v) : cellH k b off = some v := by
  unfold cellH at *
  cases hb : h b with
  | none => rw [hb] at e; cases e
  | some o => rw [s b o hb]; rw [hb] at e; exact e
theorem cell_of_h {h : Heap} {w : World} (s : Sat h w) {b off : Nat} {v : Value} (e : cellH h b off = some v) : w.cell? ⟨b, off, none⟩ = some v := by
  unfold cellH at e
  cases hb : h b with
  | none => rw [hb] at e; cases e
  | some o =>
    rw [hb] at e
    cases o <;> simp only [reduceCtorEq] at e
    simp [World.cell?, s b _ hb, e]

/-- The block b among the chunks: what it holds, and the chunks with other cells in its place. -/
class Upd (Γ : List HP) (b : Nat) (T : outParam TypeId) (cs : outParam (List Value)) (Δ : outParam (List HP)) (G : outParam (List Value → List HP)) : Prop where
  here : Γ.Perm (box b T cs :: Δ)
  there : ∀ cs', (box b T cs' :: Δ).Perm (G cs')
instance (b : Nat) (T : TypeId) (cs : List Value) (Γ : List HP) : Upd (box b T cs :: Γ) b T cs Γ (fun x => box b T x :: Γ) := ⟨.refl _, fun _ => .refl _⟩
instance (priority := low) (p : HP) (b : Nat) (T : TypeId) (cs : List Value) (Γ Δ : List HP) (G : List Value → List HP) [x : Upd Γ b T cs Δ G] : Upd (p :: Γ) b T cs (p :: Δ) (fun x => p :: G x) :=
  ⟨(x.here.cons p).trans (.swap _ _ _), fun cs' => (List.Perm.swap _ _ _).trans ((x.there cs').cons p)⟩

theorem St.box_heap {Φ : Fr} {h : Heap} {b : Nat} {T : TypeId} {cs : List Value} {Γ : List HP} {w : World} (s : St Φ h (box b T cs :: Γ) w) : w.heap[b]? = some (.cells cs.toArray T (0, 0)) :=
  St.block (r := b) (o := .cells cs.toArray T (0, 0)) s
theorem St.upd {Φ : Fr} {h : Heap} {Γ : List HP} {b : Nat} {T : TypeId} {cs : List Value} {Δ : List HP} {G : List Value → List HP} {w : World} (x : Upd Γ b T cs Δ G) (s : St Φ h Γ w) : w.heap[b]? = some (.cells cs.toArray T (0, 0)) :=
  (s.perm x.here).box_heap
/-- The cells of one owned block are written anew. -/
theorem St.write {Φ : Fr} {h : Heap} {Γ : List HP} {b : Nat} {T : TypeId} {cs : List Value} {Δ : List HP} {G : List Value → List HP} {w w' : World} (x : Upd Γ b T cs Δ G) (s : St Φ h Γ w) (cs' : List Value)
    (hb : w'.heap[b]? = some (.cells cs'.toArray T (0, 0))) (ho : ∀ k, k ≠ b → w'.heap[k]? = w.heap[k]?) (he : SameEnv w w') : St Φ h (G cs') w' := by
  refine St.perm (x.there cs') ((s.perm x.here).turn (fun k1 hk _ => ⟨Heap.one b (.cells cs'.toArray T (0, 0)), rfl, Sat.one hb, ?_, ?_⟩) he)
  · intro c hc; simp only [box] at hk; subst hk
    left; unfold Heap.one at *; split at hc <;> simp_all
  · intro c hc _; simp only [box] at hk; subst hk
    exact ho c (fun e => by subst e; rw [Heap.one_same] at hc; cases hc)
theorem cell_upd {Φ : Fr} {h : Heap} {Γ : List HP} {b : Nat} {T : TypeId} {cs : List Value} {Δ : List HP} {G : List Value → List HP} {w : World} (x : Upd Γ b T cs Δ G) (s : St Φ h Γ w) (off : Nat) : w.cell? ⟨b, off, none⟩ = cs[off]? := by
  simp [World.cell?, s.upd x]
theorem frozen_upd {Φ : Fr} {h : Heap} {Γ : List HP} {b : Nat} {T : TypeId} {cs : List Value} {Δ : List HP} {G : List Value → List HP} {w : World} (x : Upd Γ b T cs Δ G) (s : St Φ h Γ w) (off : Nat) : w.frozen? ⟨b, off, none⟩ = false := by
  simp [World.frozen?, s.upd x]

section ops
variable {P : Program} {n : Nat} {ρ : Env} {h : Heap} {Γ : List HP} {d : Option Nat} {ty : TypeId} {pos : String} {af : Array Edge} {gd : Option (Nat × Bool)}

theorem opT_move {x : Operand} {v : Value} (hx : ρ.ev x = some v) : OpT P n ⟨d, .move x, ty, pos, af, gd⟩ ρ h Γ (Det v h Γ) :=
  opT_pure (by simp) fun a e w => by simp [execOp, e.ev hx, Sem.run, pure]
theorem opT_assign {x : Operand} {v : Value} (hx : ρ.ev x = some v) : OpT P n ⟨d, .assign x, ty, pos, af, gd⟩ ρ h Γ (Det v h Γ) :=
  opT_pure (by simp) fun a e w => by simp [execOp, e.ev hx, Sem.run, pure]
theorem opT_pick_t {c x y : Operand} {v : Value} (hc : ρ.ev c = some (.bool true)) (hx : ρ.ev x = some v) : OpT P n ⟨d, .pick c x y, ty, pos, af, gd⟩ ρ h Γ (Det v h Γ) :=
  opT_pure (by simp) fun a e w => by simp [execOp, e.ev hc, e.ev hx, asBool, Sem.run, pure, bind, Sem.bind]
theorem opT_pick_f {c x y : Operand} {v : Value} (hc : ρ.ev c = some (.bool false)) (hx : ρ.ev y = some v) : OpT P n ⟨d, .pick c x y, ty, pos, af, gd⟩ ρ h Γ (Det v h Γ) :=
  opT_pure (by simp) fun a e w => by simp [execOp, e.ev hc, e.ev hx, asBool, Sem.run, pure, bind, Sem.bind]
theorem opT_nilCheck_p {x : Operand} {ad : Addr} (hx : ρ.ev x = some (.pointer (some ad))) : OpT P n ⟨d, .nilCheck x, ty, pos, af, gd⟩ ρ h Γ (Det (.pointer (some ad)) h Γ) :=
  opT_pure (by simp) fun a e w => by simp [execOp, e.ev hx, Sem.run, pure]
theorem opT_nilCheck_f {x : Operand} {f : FuncId} {fs cs : Array Value} (hx : ρ.ev x = some (.func (.func f) fs cs)) : OpT P n ⟨d, .nilCheck x, ty, pos, af, gd⟩ ρ h Γ (Det (.func (.func f) fs cs) h Γ) :=
  opT_pure (by simp) fun a e w => by simp [execOp, e.ev hx, Sem.run, pure]
theorem opT_nilCheck_y {x : Operand} {f : Nat} {fs cs : Array Value} (hx : ρ.ev x = some (.func (.yield f) fs cs)) : OpT P n ⟨d, .nilCheck x, ty, pos, af, gd⟩ ρ h Γ (Det (.func (.yield f) fs cs) h Γ) :=
  opT_pure (by simp) fun a e w => by simp [execOp, e.ev hx, Sem.run, pure]
theorem opT_not {x : Operand} {t : TypeId} {b : Bool} (hx : ρ.ev x = some (.bool b)) : OpT P n ⟨d, .unOp .not t x, ty, pos, af, gd⟩ ρ h Γ (Det (.bool (!b)) h Γ) :=
  opT_pure (by simp) fun a e w => by simp [execOp, e.ev hx, Op.unary, Sem.run, pure, bind, Sem.bind]
theorem opT_makeFunc {fn : Fn} {first captured : Array Operand} {vs us : List Value} (hv : ρ.evs first.toList = some vs) (hu : ρ.evs captured.toList = some us) :
    OpT P n ⟨d, .makeFunc fn first captured, ty, pos, af, gd⟩ ρ h Γ (Det (.func fn vs.toArray us.toArray) h Γ) :=
  opT_pure (by simp) fun a e w => by
    have h1 : first.map a.eval = vs.toArray := by apply Array.ext'; simp [← e.evs hv]
    have h2 : captured.map a.eval = us.toArray := by apply Array.ext'; simp [← e.evs hu]
    simp [execOp, h1, h2, Instr.makeFunc, Sem.run, pure, bind, Sem.bind]
theorem opT_extract {x : Operand} {vs : Array Value} {i : Nat} {v : Value} (hx : ρ.ev x = some (.tuple vs)) (hv : vs[i]? = some v) : OpT P n ⟨d, .extract x i, ty, pos, af, gd⟩ ρ h Γ (Det v h Γ) :=
  opT_pure (by simp) fun a e w => by simp [execOp, e.ev hx, Instr.extract, hv, Sem.run, pure, bind, Sem.bind]

/-! #### Numbers -/
/-- It fits an int. -/
def InI (z : Int) : Prop := -9223372036854775808 ≤ z ∧ z ≤ 9223372036854775807
theorem wrap_i64 {z : Int} (h : InI z) : IntKind.i64.wrap z = z := by
  obtain ⟨h1, h2⟩ := h
  simp only [IntKind.wrap, IntKind.bits, IntKind.signed]
  simp
  omega
variable {x y : Operand} {t t' : TypeId} {m k : Int}
theorem opT_bin {op : BinOp} {kd : IntKind} {v : Value} (hx : ρ.ev x = some (.int kd m)) (hy : ρ.ev y = some (.int kd k)) (hs : op ≠ .shl) (hr : op ≠ .shr)
    (H : ∀ w, (match op with | .add | .sub | .mul => Op.intArith op kd m k | .quo | .rem => Op.intDiv op kd m k | .and | .or | .xor | .andNot => Op.intBits op kd m k | _ => Op.intCmp op m k).run P w = .ok v w) :
    OpT P n ⟨d, .binOp op t x y t', ty, pos, af, gd⟩ ρ h Γ (Det v h Γ) :=
  opT_pure (by simp) fun a e w => by
    have h0 : (eqGuard op t x y (.int kd m) (.int kd k)).run P w = .ok () w := by
      unfold eqGuard; split <;> simp [Sem.run, pure]
    simp only [execOp, e.ev hx, e.ev hy, Sem.run_bind, h0, Result.andThen_ok]
    have h1 : (binOp op t (.int kd m) (.int kd k)).run P w = .ok v w := by
      rw [← H w]; cases op <;> simp_all [binOp]
    rw [h1]; simp [Sem.run, pure]
theorem opT_add (hx : ρ.ev x = some (.int .i64 m)) (hy : ρ.ev y = some (.int .i64 k)) (hr : InI (m + k)) : OpT P n ⟨d, .binOp .add t x y t', ty, pos, af, gd⟩ ρ h Γ (Det (.int .i64 (m + k)) h Γ) :=
  opT_bin hx hy (by simp) (by simp) fun w => by simp [Op.intArith, wrap_i64 hr, Sem.run, pure]
theorem opT_sub (hx : ρ.ev x = some (.int .i64 m)) (hy : ρ.ev y = some (.int .i64 k)) (hr : InI (m - k)) : OpT P n ⟨d, .binOp .sub t x y t', ty, pos, af, gd⟩ ρ h Γ (Det (.int .i64 (m - k)) h Γ) :=
  opT_bin hx hy (by simp) (by simp) fun w => by simp [Op.intArith, wrap_i64 hr, Sem.run, pure]
theorem opT_mul (hx : ρ.ev x = some (.int .i64 m)) (hy : ρ.ev y = some (.int .i64 k)) (hr : InI (m * k)) : OpT P n ⟨d, .binOp .mul t x y t', ty, pos, af, gd⟩ ρ h Γ (Det (.int .i64 (m * k)) h Γ) :=
  opT_bin hx hy (by simp) (by simp) fun w => by simp [Op.intArith, wrap_i64 hr, Sem.run, pure]
/-- A sum, difference or product of whatever kind, as it is wrapped. -/
theorem opT_arith {op : BinOp} {kd : IntKind} (hx : ρ.ev x = some (.int kd m)) (hy : ρ.ev y = some (.int kd k)) (ho : op = .add ∨ op = .sub ∨ op = .mul) :
    OpT P n ⟨d, .binOp op t x y t', ty, pos, af, gd⟩ ρ h Γ (fun v h' Γ' => ∃ z, v = .int kd (kd.wrap z) ∧ h' = h ∧ Γ' = Γ) := by
  rcases ho with rfl | rfl | rfl
  · exact (opT_bin (v := .int kd (kd.wrap (m + k))) hx hy (by simp) (by simp) fun w => by simp [Op.intArith, Sem.run, pure]).mono fun v _ _ _ ⟨a, b, c⟩ => ⟨_, a, b, c⟩
  · exact (opT_bin (v := .int kd (kd.wrap (m - k))) hx hy (by simp) (by simp) fun w => by simp [Op.intArith, Sem.run, pure]).mono fun v _ _ _ ⟨a, b, c⟩ => ⟨_, a, b, c⟩
  · exact (opT_bin (v := .int kd (kd.wrap (m * k))) hx hy (by simp) (by simp) fun w => by simp [Op.intArith, Sem.run, pure]).mono fun v _ _ _ ⟨a, b, c⟩ => ⟨_, a, b, c⟩
theorem opT_quo (hx : ρ.ev x = some (.int .i64 m)) (hy : ρ.ev y = some (.int .i64 k)) (h0 : 0 ≤ m) (h1 : 0 < k) (h2 : m ≤ 9223372036854775807) : OpT P n ⟨d, .binOp .quo t x y t', ty, pos, af, gd⟩ ρ h Γ (Det (.int .i64 (m / k)) h Γ) :=
  opT_bin hx hy (by simp) (by simp) fun w => by
    have hk : k ≠ 0 := by omega
    have hle : m / k ≤ m := Int.ediv_le_self k h0
    have hge : 0 ≤ m / k := Int.ediv_nonneg h0 (by omega)
    have hq : InI (m / k) := ⟨by omega, by omega⟩
    simp [Op.intDiv, hk, Int.tdiv_eq_ediv_of_nonneg h0, wrap_i64 hq, Sem.run, pure]
theorem opT_rem (hx : ρ.ev x = some (.int .i64 m)) (hy : ρ.ev y = some (.int .i64 k)) (h0 : 0 ≤ m) (h1 : 0 < k) : OpT P n ⟨d, .binOp .rem t x y t', ty, pos, af, gd⟩ ρ h Γ (Det (.int .i64 (m % k)) h Γ) :=
  opT_bin hx hy (by simp) (by simp) fun w => by
    have hk : k ≠ 0 := by omega
    simp [Op.intDiv, hk, Int.tmod_eq_emod_of_nonneg h0, Sem.run, pure]
theorem opT_lss {kd : IntKind} (hx : ρ.ev x = some (.int kd m)) (hy : ρ.ev y = some (.int kd k)) : OpT P n ⟨d, .binOp .lss t x y t', ty, pos, af, gd⟩ ρ h Γ (Det (.bool (decide (m < k))) h Γ) :=
  opT_bin hx hy (by simp) (by simp) fun w => by simp [Op.intCmp, Sem.run, pure]
theorem opT_leq {kd : IntKind} (hx : ρ.ev x = some (.int kd m)) (hy : ρ.ev y = some (.int kd k)) : OpT P n ⟨d, .binOp .leq t x y t', ty, pos, af, gd⟩ ρ h Γ (Det (.bool (decide (m ≤ k))) h Γ) :=
  opT_bin hx hy (by simp) (by simp) fun w => by simp [Op.intCmp, Sem.run, pure]
theorem opT_gtr {kd : IntKind} (hx : ρ.ev x = some (.int kd m)) (hy : ρ.ev y = some (.int kd k)) : OpT P n ⟨d, .binOp .gtr t x y t', ty, pos, af, gd⟩ ρ h Γ (Det (.bool (decide (k < m))) h Γ) :=
  opT_bin hx hy (by simp) (by simp) fun w => by simp [Op.intCmp, Sem.run, pure]
theorem opT_geq {kd : IntKind} (hx : ρ.ev x = some (.int kd m)) (hy : ρ.ev y = some (.int kd k)) : OpT P n ⟨d, .binOp .geq t x y t', ty, pos, af, gd⟩ ρ h Γ (Det (.bool (decide (k ≤ m))) h Γ) :=
  opT_bin hx hy (by simp) (by simp) fun w => by simp [Op.intCmp, Sem.run, pure]
theorem opT_eql {kd : IntKind} (hx : ρ.ev x = some (.int kd m)) (hy : ρ.ev y = some (.int kd k)) : OpT P n ⟨d, .binOp .eql t x y t', ty, pos, af, gd⟩ ρ h Γ (Det (.bool (decide (m = k))) h Γ) :=
  opT_bin hx hy (by simp) (by simp) fun w => by simp only [Op.intCmp, Sem.run, pure]; rfl
theorem opT_neq {kd : IntKind} (hx : ρ.ev x = some (.int kd m)) (hy : ρ.ev y = some (.int kd k)) : OpT P n ⟨d, .binOp .neq t x y t', ty, pos, af, gd⟩ ρ h Γ (Det (.bool (decide (m ≠ k))) h Γ) :=
  opT_bin hx hy (by simp) (by simp) fun w => by
    have : (m != k) = decide (m ≠ k) := by by_cases h : m = k <;> simp [h]
    simp only [Op.intCmp, Sem.run, pure, this]
theorem opT_lss_t {kd : IntKind} (hx : ρ.ev x = some (.int kd m)) (hy : ρ.ev y = some (.int kd k)) (hp : m < k) : OpT P n ⟨d, .binOp .lss t x y t', ty, pos, af, gd⟩ ρ h Γ (Det (.bool true) h Γ) := by
  have := opT_lss (P := P) (n := n) (h := h) (Γ := Γ) (d := d) (ty := ty) (pos := pos) (af := af) (gd := gd) (t := t) (t' := t') hx hy
  rw [decide_eq_true hp] at this; exact this
theorem opT_lss_f {kd : IntKind} (hx : ρ.ev x = some (.int kd m)) (hy : ρ.ev y = some (.int kd k)) (hp : ¬ (m < k)) : OpT P n ⟨d, .binOp .lss t x y t', ty, pos, af, gd⟩ ρ h Γ (Det (.bool false) h Γ) := by
  have := opT_lss (P := P) (n := n) (h := h) (Γ := Γ) (d := d) (ty := ty) (pos := pos) (af := af) (gd := gd) (t := t) (t' := t') hx hy
  rw [decide_eq_false hp] at this; exact this
theorem opT_leq_t {kd : IntKind} (hx : ρ.ev x = some (.int kd m)) (hy : ρ.ev y = some (.int kd k)) (hp : m ≤ k) : OpT P n ⟨d, .binOp .leq t x y t', ty, pos, af, gd⟩ ρ h Γ (Det (.bool true) h Γ) := by
  have := opT_leq (P := P) (n := n) (h := h) (Γ := Γ) (d := d) (ty := ty) (pos := pos) (af := af) (gd := gd) (t := t) (t' := t') hx hy
  rw [decide_eq_true hp] at this; exact this
theorem opT_leq_f {kd : IntKind} (hx : ρ.ev x = some (.int kd m)) (hy : ρ.ev y = some (.int kd k)) (hp : ¬ (m ≤ k)) : OpT P n ⟨d, .binOp .leq t x y t', ty, pos, af, gd⟩ ρ h Γ (Det (.bool false) h Γ) := by
  have := opT_leq (P := P) (n := n) (h := h) (Γ := Γ) (d := d) (ty := ty) (pos := pos) (af := af) (gd := gd) (t := t) (t' := t') hx hy
  rw [decide_eq_false hp] at this; exact this
theorem opT_gtr_t {kd : IntKind} (hx : ρ.ev x = some (.int kd m)) (hy : ρ.ev y = some (.int kd k)) (hp : k < m) : OpT P n ⟨d, .binOp .gtr t x y t', ty, pos, af, gd⟩ ρ h Γ (Det (.bool true) h Γ) := by
  have := opT_gtr (P := P) (n := n) (h := h) (Γ := Γ) (d := d) (ty := ty) (pos := pos) (af := af) (gd := gd) (t := t) (t' := t') hx hy
  rw [decide_eq_true hp] at this; exact this
theorem opT_gtr_f {kd : IntKind} (hx : ρ.ev x = some (.int kd m)) (hy : ρ.ev y = some (.int kd k)) (hp : ¬ (k < m)) : OpT P n ⟨d, .binOp .gtr t x y t', ty, pos, af, gd⟩ ρ h Γ (Det (.bool false) h Γ) := by
  have := opT_gtr (P := P) (n := n) (h := h) (Γ := Γ) (d := d) (ty := ty) (pos := pos) (af := af) (gd := gd) (t := t) (t' := t') hx hy
  rw [decide_eq_false hp] at this; exact this
theorem opT_geq_t {kd : IntKind} (hx : ρ.ev x = some (.int kd m)) (hy : ρ.ev y = some (.int kd k)) (hp : k ≤ m) : OpT P n ⟨d, .binOp .geq t x y t', ty, pos, af, gd⟩ ρ h Γ (Det (.bool true) h Γ) := by
  have := opT_geq (P := P) (n := n) (h := h) (Γ := Γ) (d := d) (ty := ty) (pos := pos) (af := af) (gd := gd) (t := t) (t' := t') hx hy
  rw [decide_eq_true hp] at this; exact this
theorem opT_geq_f {kd : IntKind} (hx : ρ.ev x = some (.int kd m)) (hy : ρ.ev y = some (.int kd k)) (hp : ¬ (k ≤ m)) : OpT P n ⟨d, .binOp .geq t x y t', ty, pos, af, gd⟩ ρ h Γ (Det (.bool false) h Γ) := by
  have := opT_geq (P := P) (n := n) (h := h) (Γ := Γ) (d := d) (ty := ty) (pos := pos) (af := af) (gd := gd) (t := t) (t' := t') hx hy
  rw [decide_eq_false hp] at this; exact this
theorem opT_eql_t {kd : IntKind} (hx : ρ.ev x = some (.int kd m)) (hy : ρ.ev y = some (.int kd k)) (hp : m = k) : OpT P n ⟨d, .binOp .eql t x y t', ty, pos, af, gd⟩ ρ h Γ (Det (.bool true) h Γ) := by
  have := opT_eql (P := P) (n := n) (h := h) (Γ := Γ) (d := d) (ty := ty) (pos := pos) (af := af) (gd := gd) (t := t) (t' := t') hx hy
  rw [decide_eq_true hp] at this; exact this
theorem opT_eql_f {kd : IntKind} (hx : ρ.ev x = some (.int kd m)) (hy : ρ.ev y = some (.int kd k)) (hp : ¬ (m = k)) : OpT P n ⟨d, .binOp .eql t x y t', ty, pos, af, gd⟩ ρ h Γ (Det (.bool false) h Γ) := by
  have := opT_eql (P := P) (n := n) (h := h) (Γ := Γ) (d := d) (ty := ty) (pos := pos) (af := af) (gd := gd) (t := t) (t' := t') hx hy
  rw [decide_eq_false hp] at this; exact this
theorem opT_neq_t {kd : IntKind} (hx : ρ.ev x = some (.int kd m)) (hy : ρ.ev y = some (.int kd k)) (hp : m ≠ k) : OpT P n ⟨d, .binOp .neq t x y t', ty, pos, af, gd⟩ ρ h Γ (Det (.bool true) h Γ) := by
  have := opT_neq (P := P) (n := n) (h := h) (Γ := Γ) (d := d) (ty := ty) (pos := pos) (af := af) (gd := gd) (t := t) (t' := t') hx hy
  rw [decide_eq_true hp] at this; exact this
theorem opT_neq_f {kd : IntKind} (hx : ρ.ev x = some (.int kd m)) (hy : ρ.ev y = some (.int kd k)) (hp : ¬ (m ≠ k)) : OpT P n ⟨d, .binOp .neq t x y t', ty, pos, af, gd⟩ ρ h Γ (Det (.bool false) h Γ) := by
  have := opT_neq (P := P) (n := n) (h := h) (Γ := Γ) (d := d) (ty := ty) (pos := pos) (af := af) (gd := gd) (t := t) (t' := t') hx hy
  rw [decide_eq_false hp] at this; exact this
theorem opT_not_t (hx : ρ.ev x = some (.bool true)) : OpT P n ⟨d, .unOp .not t x, ty, pos, af, gd⟩ ρ h Γ (Det (.bool false) h Γ) := opT_not hx
theorem opT_not_f (hx : ρ.ev x = some (.bool false)) : OpT P n ⟨d, .unOp .not t x, ty, pos, af, gd⟩ ρ h Γ (Det (.bool true) h Γ) := opT_not hx
end ops

theorem en_if {n : Nat} {Φ : Fr} {P : Program} {F : Fence} {Q : Exit → Act → World → Prop} {ρ : Env} {h : Heap} {Γ : List HP} {c : Operand} {x y : Code} {p : Prop} [Decidable p] (hc : ρ.ev c = some (.bool (decide p))) (ht : p → En n Φ (x.wpIn F 0 P Q) ρ h Γ) (hf : ¬ p → En n Φ (y.wpIn F 0 P Q) ρ h Γ) :
    En n Φ ((Code.cond c x y).wpIn F 0 P Q) ρ h Γ := en_cond hc (fun e => ht (of_decide_eq_true e)) (fun e => hf (of_decide_eq_false e))
end Go.Sx

/- The operations on memory. -/
namespace Go.Sx

class NA (a b : Nat) (c : outParam Nat) : Prop where
  eq : a + b = c
instance (priority := high) (b : Nat) : NA 0 b b := ⟨Nat.zero_add b⟩
instance (a : Nat) : NA a 0 a := ⟨rfl⟩
instance (priority := low) (a b : Nat) : NA a b (a + b) := ⟨rfl⟩
/-- The cells from an offset on, so many of them. -/
class TakeAt (cs : List Value) (off m : Nat) (l : outParam (List Value)) : Prop where
  eq : (cs.drop off).take m = l ∧ off + m ≤ cs.length
instance (cs : List Value) : TakeAt cs 0 0 [] := ⟨by simp⟩
instance (v : Value) (cs l : List Value) (m : Nat) [x : TakeAt cs 0 m l] : TakeAt (v :: cs) 0 (m + 1) (v :: l) := ⟨by
  have := x.eq
  simp only [List.drop_zero, Nat.zero_add] at *
  exact ⟨by rw [List.take_succ_cons, this.1], by simpa using this.2⟩⟩
instance (v : Value) (cs l : List Value) (off m : Nat) [x : TakeAt cs off m l] : TakeAt (v :: cs) (off + 1) m l := ⟨by
  have := x.eq
  exact ⟨by simpa using this.1, by have := this.2; simp; omega⟩⟩
/-- One cell put anew. -/
class SetAt (cs : List Value) (off : Nat) (v : Value) (l : outParam (List Value)) : Prop where
  eq : cs.set off v = l ∧ off < cs.length
instance (u v : Value) (cs : List Value) : SetAt (u :: cs) 0 v (v :: cs) := ⟨by simp⟩
instance (u v : Value) (cs l : List Value) (off : Nat) [x : SetAt cs off v l] : SetAt (u :: cs) (off + 1) v (u :: l) := ⟨by
  have := x.eq; exact ⟨by simp [this.1], by simpa using this.2⟩⟩
/-- Some cells put anew. -/
class PutAt (cs : List Value) (off : Nat) (us : List Value) (l : outParam (List Value)) : Prop where
  eq : cs.take off ++ us ++ cs.drop (off + us.length) = l ∧ off + us.length ≤ cs.length
instance (cs : List Value) : PutAt cs 0 [] cs := ⟨by simp⟩
instance (u v : Value) (cs us l : List Value) [x : PutAt cs 0 us l] : PutAt (u :: cs) 0 (v :: us) (v :: l) := ⟨by
  have := x.eq; simp only [List.take_zero, List.nil_append, Nat.zero_add] at *; exact ⟨by simp [this.1], by simpa using this.2⟩⟩
instance (u : Value) (cs us l : List Value) (off : Nat) [x : PutAt cs off us l] : PutAt (u :: cs) (off + 1) us (u :: l) := ⟨by
  have := x.eq
  have e : off + 1 + us.length = (off + us.length) + 1 := by omega
  exact ⟨by rw [e, List.take_succ_cons, List.drop_succ_cons]; simpa using this.1, by have := this.2; simp; omega⟩⟩

def CellsH (h : Heap) (b off : Nat) (l : List Value) : Prop := ∀ j v, l[j]? = some v → cellH h b (off + j) = some v
theorem CellsH.mono {h k : Heap} (s : h.sub k) {b off : Nat} {l : List Value} (c : CellsH h b off l) : CellsH k b off l := fun j v e => cellH_sub s (c j v e)

section ops
variable {P : Program} {n : Nat} {ρ : Env} {h : Heap} {Γ : List HP} {d : Option Nat} {ty : TypeId} {pos : String} {af : Array Edge} {gd : Option (Nat × Bool)}
variable {T U : TypeId} {x y : Operand} {b off : Nat} {cs zs l : List Value} {by_ sz : Nat} {Δ : List HP} {G : List Value → List HP} {v : Value}

theorem run_loadVar_one {w : World} {a : Addr} (hT : One P T) (hc : w.cell? a = some v) : (loadVar T a).run P w = .ok v w := by
  simp [loadVar, run_isAgg_one hT, Go.load, Sem.run, hc]
theorem run_loadVar_agg {w : World} (hT : Agg P T) (hI : Info P T zs sz by_) (hl : l.length = sz) (hc : ∀ j u, l[j]? = some u → w.cell? ⟨b, off + j, none⟩ = some u) :
    (loadVar T ⟨b, off, none⟩).run P w = .ok (.agg l.toArray) w := by
  have h1 := run_loadCells_list (P := P) w ⟨b, off, none⟩ l (fun j u hj => by rw [addr_add]; exact hc j u hj)
  rw [hl] at h1
  simp [loadVar, run_isAgg_agg hT, run_size hI, h1]

theorem opT_load_own [hT : One P T] [u : Upd Γ b U cs Δ G] (hx : ρ.ev x = some (.pointer (some ⟨b, off, none⟩))) (hc : cs[off]? = some v) : OpT P n ⟨d, .load T x, ty, pos, af, gd⟩ ρ h Γ (Det v h Γ) :=
  opT_run (by simp) fun Φ a w e s => ⟨v, w, h, Γ, by
    have : w.cell? ⟨b, off, none⟩ = some v := by rw [cell_upd u s]; exact hc
    simp [execOp, e.ev hx, Instr.loadAt, Instr.sureAddr, run_loadVar_one hT this], .refl _, ⟨rfl, rfl, rfl⟩, s⟩
theorem opT_load_h [hT : One P T] (hx : ρ.ev x = some (.pointer (some ⟨b, off, none⟩))) (hc : cellH h b off = some v) : OpT P n ⟨d, .load T x, ty, pos, af, gd⟩ ρ h Γ (Det v h Γ) :=
  opT_run (by simp) fun Φ a w e s => ⟨v, w, h, Γ, by
    have : w.cell? ⟨b, off, none⟩ = some v := cell_of_h s.sat hc
    simp [execOp, e.ev hx, Instr.loadAt, Instr.sureAddr, run_loadVar_one hT this], .refl _, ⟨rfl, rfl, rfl⟩, s⟩
theorem opT_loadA_own [hT : Agg P T] [hI : Info P T zs sz by_] [u : Upd Γ b U cs Δ G] [t : TakeAt cs off sz l] (hx : ρ.ev x = some (.pointer (some ⟨b, off, none⟩))) : OpT P n ⟨d, .load T x, ty, pos, af, gd⟩ ρ h Γ (Det (.agg l.toArray) h Γ) :=
  opT_run (by simp) fun Φ a w e s => ⟨.agg l.toArray, w, h, Γ, by
    obtain ⟨h1, h2⟩ := t.eq
    have hlen : l.length = sz := by rw [← h1]; simp; omega
    have hc : ∀ j u', l[j]? = some u' → w.cell? ⟨b, off + j, none⟩ = some u' := fun j u' hj => by
      rw [cell_upd u s, ← hj, ← h1, List.getElem?_take, List.getElem?_drop, if_pos]
      rw [← hlen]; exact (List.getElem?_eq_some_iff.1 hj).1
    simp [execOp, e.ev hx, Instr.loadAt, Instr.sureAddr, run_loadVar_agg hT hI hlen hc], .refl _, ⟨rfl, rfl, rfl⟩, s⟩
theorem opT_loadA_h [hT : Agg P T] [hI : Info P T zs sz by_] (hx : ρ.ev x = some (.pointer (some ⟨b, off, none⟩))) (hc : CellsH h b off l) (hlen : l.length = sz) : OpT P n ⟨d, .load T x, ty, pos, af, gd⟩ ρ h Γ (Det (.agg l.toArray) h Γ) :=
  opT_run (by simp) fun Φ a w e s => ⟨.agg l.toArray, w, h, Γ, by
    have hc' : ∀ j u', l[j]? = some u' → w.cell? ⟨b, off + j, none⟩ = some u' := fun j u' hj => cell_of_h s.sat (hc j u' hj)
    simp [execOp, e.ev hx, Instr.loadAt, Instr.sureAddr, run_loadVar_agg hT hI hlen hc'], .refl _, ⟨rfl, rfl, rfl⟩, s⟩

theorem setRow_env (w : World) (b : Nat) (c : Array Value) : SameEnv w (w.setRow b c) := ⟨rfl, rfl, rfl⟩
/-- A store of some cells into an owned block. -/
theorem opT_store_list [hI : Info P T zs sz by_] [u : Upd Γ b U cs Δ G] (hx : ρ.ev x = some (.pointer (some ⟨b, off, none⟩))) (hv : ρ.ev y = some v) {us : List Value} (hu : v.cells = us.toArray) (hlen : us.length = sz)
    (h1 : ∀ q ∈ us, q.oneCell' = true) (hfit : off + us.length ≤ cs.length) : OpT P n ⟨d, .store T x y, ty, pos, af, gd⟩ ρ h Γ (Det undef h (G (cs.take off ++ us ++ cs.drop (off + us.length)))) :=
  opT_skip (by simp) fun Φ a w e s => by
    have hb := s.upd u
    have hst := run_storeCells_at P b off U us 0 cs.toArray w hb (by simpa using hfit) h1
    simp only [Nat.add_zero] at hst
    refine ⟨_, h, _, ?_, .refl _, ⟨rfl, rfl, rfl⟩, s.write u (cs.take off ++ us ++ cs.drop (off + us.length)) (setRow_heap w b _ _ U (0, 0) hb) (fun k hk => setRow_other w b k _ hk) (setRow_env _ _ _)⟩
    have hsz : v.cells.size = sz := by rw [hu]; simpa using hlen
    simp [execOp, e.ev hx, e.ev hv, Instr.storeAt, Instr.sureAddr, storeVar, hsz, run_size hI, hu, hlen, hst]
theorem opT_store1 [hI : Info P T zs 1 by_] [u : Upd Γ b U cs Δ G] [t : SetAt cs off v l] (hx : ρ.ev x = some (.pointer (some ⟨b, off, none⟩))) (hv : ρ.ev y = some v) (h1 : v.oneCell' = true) : OpT P n ⟨d, .store T x y, ty, pos, af, gd⟩ ρ h Γ (Det undef h (G l)) := by
  have hc : v.cells = [v].toArray := by cases v <;> simp_all [Value.cells, Value.oneCell']
  have : OpT P n ⟨d, .store T x y, ty, pos, af, gd⟩ ρ h Γ (Det undef h (G (cs.take off ++ [v] ++ cs.drop (off + [v].length)))) := opT_store_list hx hv hc (by simp) (by simpa using h1) (by have := t.eq.2; simp; omega)
  have e : cs.take off ++ [v] ++ cs.drop (off + [v].length) = l := by
    rw [← t.eq.1, List.set_eq_take_append_cons_drop, if_pos t.eq.2]; simp
  rw [e] at this; exact this
/-- The same at an offset that is no literal. -/
theorem opT_store1s [hI : Info P T zs 1 by_] [u : Upd Γ b U cs Δ G] (hx : ρ.ev x = some (.pointer (some ⟨b, off, none⟩))) (hv : ρ.ev y = some v) (h1 : v.oneCell' = true) (hfit : off < cs.length) : OpT P n ⟨d, .store T x y, ty, pos, af, gd⟩ ρ h Γ (Det undef h (G (cs.set off v))) := by
  have t : SetAt cs off v (cs.set off v) := ⟨rfl, hfit⟩
  exact opT_store1 hx hv h1
theorem opT_storeA [hI : Info P T zs sz by_] [u : Upd Γ b U cs Δ G] {us : List Value} [t : PutAt cs off us l] (hx : ρ.ev x = some (.pointer (some ⟨b, off, none⟩))) (hv : ρ.ev y = some (.agg us.toArray)) (hlen : us.length = sz) (h1 : ∀ q ∈ us, q.oneCell' = true) :
    OpT P n ⟨d, .store T x y, ty, pos, af, gd⟩ ρ h Γ (Det undef h (G l)) := by
  have : OpT P n ⟨d, .store T x y, ty, pos, af, gd⟩ ρ h Γ (Det undef h (G (cs.take off ++ us ++ cs.drop (off + us.length)))) := opT_store_list hx hv rfl hlen h1 t.eq.2
  rw [t.eq.1] at this; exact this
/-- The whole variable. -/
theorem opT_storeW [hI : Info P T zs sz by_] [u : Upd Γ b U cs Δ G] {us : List Value} (hx : ρ.ev x = some (.pointer (some ⟨b, 0, none⟩))) (hv : ρ.ev y = some (.agg us.toArray)) (hlen : us.length = sz) (hlen0 : Nat.beq cs.length sz = true) (h1 : ∀ q ∈ us, q.oneCell' = true) :
    OpT P n ⟨d, .store T x y, ty, pos, af, gd⟩ ρ h Γ (Det undef h (G us)) := by
  have hlen' : cs.length = us.length := (Nat.eq_of_beq_eq_true hlen0).trans hlen.symm
  have : OpT P n ⟨d, .store T x y, ty, pos, af, gd⟩ ρ h Γ (Det undef h (G (cs.take 0 ++ us ++ cs.drop (0 + us.length)))) := opT_store_list hx hv rfl hlen h1 (by omega)
  rw [List.take_zero, List.nil_append, Nat.zero_add, ← hlen', List.drop_length, List.append_nil] at this; exact this

theorem opT_newRow {o : Oper} {cs : List Value} {f : Addr → Value} (hop : ∀ c, o.op ≠ .defer c)
    (H : ∀ a, EnvOK n a ρ → ∀ w Ψ, St Ψ h Γ w → (execOp a.eval o).run P w = .ok (.value (f ⟨w.heap.size, 0, none⟩)) (w.alloc (.cells cs.toArray T))) :
    OpT P n o ρ h Γ (fun v h' Γ' => ∃ b, v = f ⟨b, 0, none⟩ ∧ h' = h ∧ Γ' = box b T cs :: Γ) :=
  opT_run hop fun Φ a w e s => ⟨_, _, h, box w.heap.size T cs :: Γ, H a e w Φ s, .refl _, ⟨w.heap.size, rfl, rfl, rfl⟩, s.alloc _⟩
theorem opT_alloc [hI : Info P T cs sz by_] : OpT P n ⟨d, .alloc T, ty, pos, af, gd⟩ ρ h Γ (fun v h' Γ' => ∃ b, v = .pointer (some ⟨b, 0, none⟩) ∧ h' = h ∧ Γ' = box b T cs :: Γ) :=
  opT_newRow (f := fun a => .pointer (some a)) (by simp) fun a e w Ψ s => by
    obtain ⟨z, hz, hr⟩ := run_zero (P := P) (w := w) hI
    simp [execOp, Instr.alloc, hr, newVar, newRow, hz]
theorem opT_box (hx : ρ.ev x = some v) (hv : v.cells = cs.toArray) : OpT P n ⟨d, .box T x, ty, pos, af, gd⟩ ρ h Γ (fun v h' Γ' => ∃ b, v = .pointer (some ⟨b, 0, none⟩) ∧ h' = h ∧ Γ' = box b T cs :: Γ) :=
  opT_newRow (f := fun a => .pointer (some a)) (by simp) fun a e w Ψ s => by
    simp [execOp, Instr.box, e.ev hx, newVar, newRow, hv]

theorem opT_fieldAddr {f o k : Nat} [hf : Fd P T f o] [ha : NA off o k] (hx : ρ.ev x = some (.pointer (some ⟨b, off, none⟩))) : OpT P n ⟨d, .fieldAddr T x f, ty, pos, af, gd⟩ ρ h Γ (Det (.pointer (some ⟨b, k, none⟩)) h Γ) :=
  opT_pure (by simp) fun a e w => by
    obtain ⟨fields, fld, i, h1, h2, h3, h4, h5⟩ := hf.fd
    have hs : (sizeOf fld.type).run P w = .ok i.size w := by simp [sizeOf, run_info h4]
    simp [execOp, e.ev hx, Instr.fieldAt, run_und h1, h2, Instr.sureAddr, fieldPlace, hs, h5, addr_add, h3, ha.eq]
theorem opT_field {f o : Nat} {us : List Value} {fields : Array Field} {fld : Field} (hu : P.underlying T = some (.struct fields)) (hfl : fields[f]? = some fld) [h1 : One P fld.type] (hx : ρ.ev x = some (.agg us.toArray)) (hv : us[fld.offset]? = some v) : OpT P n ⟨d, .field T x f, ty, pos, af, gd⟩ ρ h Γ (Det v h Γ) :=
  opT_pure (by simp) fun a e w => by
    simp [execOp, e.ev hx, Instr.field, run_und hu, hfl, asAgg, part, run_isAgg_one h1, hv, Sem.run, pure]

theorem opT_idx {e : TypeId} {kd : IntKind} {i : Int} {len cap k ks o' : Nat} [hT : Ty P T (.slice e)] [hI : Info P e zs sz by_] [hk : ToNat i k] [ha : NA off (k * sz) o'] (hx : ρ.ev x = some (.slice (some ⟨b, off, none⟩) len cap)) (hy : ρ.ev y = some (.int kd i)) (h0 : 0 ≤ i) (h1 : i < len) :
    OpT P n ⟨d, .indexAddr T x y, ty, pos, af, gd⟩ ρ h Γ (Det (.pointer (some ⟨b, o', none⟩)) h Γ) :=
  opT_pure (by simp) fun a e w => by
    have hin : 0 ≤ i ∧ i < (len : Int) := ⟨h0, h1⟩
    simp [execOp, e.ev hx, e.ev hy, Instr.indexAt, asIntOf, run_und hT.und, run_size hI, hin, addr_add, hk.eq, ha.eq, Sem.run, pure]
theorem opT_idx1 {e : TypeId} {kd : IntKind} {i : Int} {len cap k o' : Nat} [hT : Ty P T (.slice e)] [hI : Info P e zs 1 by_] [hk : ToNat i k] [ha : NA off k o'] (hx : ρ.ev x = some (.slice (some ⟨b, off, none⟩) len cap)) (hy : ρ.ev y = some (.int kd i)) (h0 : 0 ≤ i) (h1 : i < len) :
    OpT P n ⟨d, .indexAddr T x y, ty, pos, af, gd⟩ ρ h Γ (Det (.pointer (some ⟨b, o', none⟩)) h Γ) := by
  have ha' : NA off (k * 1) o' := ⟨by rw [Nat.mul_one]; exact ha.eq⟩
  exact opT_idx (ks := 0) hx hy h0 h1
theorem opT_idxArr {e : TypeId} {kd : IntKind} {i : Int} {len k o' : Nat} [hT : Ty P T (.array len e)] [hI : Info P e zs 1 by_] [hk : ToNat i k] [ha : NA off k o'] (hx : ρ.ev x = some (.pointer (some ⟨b, off, none⟩))) (hy : ρ.ev y = some (.int kd i)) (h0 : 0 ≤ i) (h1 : i < len) :
    OpT P n ⟨d, .indexAddr T x y, ty, pos, af, gd⟩ ρ h Γ (Det (.pointer (some ⟨b, o', none⟩)) h Γ) :=
  opT_pure (by simp) fun a e w => by
    have hin : 0 ≤ i ∧ i < (len : Int) := ⟨h0, h1⟩
    simp [execOp, e.ev hx, e.ev hy, Instr.indexAt, asIntOf, run_und hT.und, Instr.sureAddr, run_size hI, hin, addr_add, hk.eq, ha.eq, Sem.run, pure]
theorem opT_index {e : TypeId} {kd : IntKind} {i : Int} {len k : Nat} {us : List Value} [hT : Ty P T (.array len e)] [h1 : One P e] [hI : Info P e zs 1 by_] [hk : ToNat i k] (hx : ρ.ev x = some (.agg us.toArray)) (hy : ρ.ev y = some (.int kd i)) (h0 : 0 ≤ i) (hl : i < len) (hv : us[k]? = some v) :
    OpT P n ⟨d, .index T x y, ty, pos, af, gd⟩ ρ h Γ (Det v h Γ) :=
  opT_pure (by simp) fun a e w => by
    have hin : 0 ≤ i ∧ i < (len : Int) := ⟨h0, hl⟩
    simp [execOp, e.ev hx, e.ev hy, Instr.index, asIntOf, run_und hT.und, hin, run_size hI, part, run_isAgg_one h1, hk.eq, hv, Sem.run, pure]
theorem opT_len {e : TypeId} {a0 : Option Addr} {len cap : Nat} [hT : Ty P T (.slice e)] (hx : ρ.ev x = some (.slice a0 len cap)) : OpT P n ⟨d, .call { callee := .builtin .len, args := #[x], argTypes := #[T] }, ty, pos, af, gd⟩ ρ h Γ (Det (.int .i64 len) h Γ) :=
  opT_pure (by simp) fun a e w => by
    simp [execOp, resolve, e.ev hx, invoke, builtin, Builtin.len_, run_und hT.und, goInt, Sem.run, pure]
theorem opT_min2 {i j : Int} {Ts : Array TypeId} (hx : ρ.ev x = some (.int .i64 i)) (hy : ρ.ev y = some (.int .i64 j)) : OpT P n ⟨d, .call { callee := .builtin .min, args := #[x, y], argTypes := Ts }, ty, pos, af, gd⟩ ρ h Γ (Det (.int .i64 (min i j)) h Γ) :=
  opT_pure (by simp) fun a e w => by
    have hm : min i j = if j < i then j else i := by omega
    simp [execOp, resolve, e.ev hx, e.ev hy, invoke, builtin, run_min_int2, hm]
theorem opT_max2 {i j : Int} {Ts : Array TypeId} (hx : ρ.ev x = some (.int .i64 i)) (hy : ρ.ev y = some (.int .i64 j)) : OpT P n ⟨d, .call { callee := .builtin .max, args := #[x, y], argTypes := Ts }, ty, pos, af, gd⟩ ρ h Γ (Det (.int .i64 (max i j)) h Γ) :=
  opT_pure (by simp) fun a e w => by
    have hm : max i j = if j > i then j else i := by omega
    simp [execOp, resolve, e.ev hx, e.ev hy, invoke, builtin, run_max_int2, hm]
theorem opT_conv {kd kd' : IntKind} {i : Int} {src dst : TypeId} [h1 : Ty P src (.int kd')] [h2 : Ty P dst (.int kd)] (hx : ρ.ev x = some (.int kd' i)) (hr : kd.wrap i = i) : OpT P n ⟨d, .convert src dst x, ty, pos, af, gd⟩ ρ h Γ (Det (.int kd i) h Γ) :=
  opT_pure (by simp) fun a e w => by
    simp [execOp, e.ev hx, convert, run_und h1.und, run_und h2.und, Conv.intToInt, hr, Sem.run, pure]
theorem opT_conv_any {kd kd' : IntKind} {i : Int} {src dst : TypeId} [h1 : Ty P src (.int kd')] [h2 : Ty P dst (.int kd)] (hx : ρ.ev x = some (.int kd' i)) : OpT P n ⟨d, .convert src dst x, ty, pos, af, gd⟩ ρ h Γ (Det (.int kd (kd.wrap i)) h Γ) :=
  opT_pure (by simp) fun a e w => by
    simp [execOp, e.ev hx, convert, run_und h1.und, run_und h2.und, Conv.intToInt, Sem.run, pure]
/-- 'a[:]' of an array. -/
theorem opT_sliceArr {e : TypeId} {len : Nat} [hT : Ty P T (.array len e)] [hI : Info P e zs sz by_] (hp : 0 < len) (hx : ρ.ev x = some (.pointer (some ⟨b, off, none⟩))) : OpT P n ⟨d, .slice T x none none none, ty, pos, af, gd⟩ ρ h Γ (Det (.slice (some ⟨b, off, none⟩) len len) h Γ) :=
  opT_pure (by simp) fun a e w => by
    have : ¬ len = 0 := by omega
    simp [execOp, e.ev hx, Instr.sliceAt, run_und hT.und, Instr.sureAddr, Instr.sliceBounds, run_size hI, this, addr_add, Sem.run, pure]
end ops

section en
variable {P : Program} {n : Nat} {ρ : Env} {h : Heap} {Γ : List HP} {d : Nat} {ty : TypeId} {pos : String} {af : Array Edge} {Φ : Fr} {rd : Option Nat} {Q : Exit → Act → World → Prop} {ops : Array Oper} {rest : List Oper}
variable {T : TypeId} {x : Operand} {cs : List Value} {by_ sz : Nat} {v : Value}
theorem en_alloc [hI : Info P T cs sz by_] (hd : Nat.blt d n = true) (H : ∀ b, En n Φ (wpListIn (fence rd) 0 P ops Q rest) ((d, .pointer (some ⟨b, 0, none⟩)) :: ρ) h (box b T cs :: Γ)) :
    En n Φ (wpListIn (fence rd) 0 P ops Q (⟨some d, .alloc T, ty, pos, af, none⟩ :: rest)) ρ h Γ :=
  en_op opT_alloc hd fun v h' Γ' _ ⟨b, e1, e2, e3⟩ => by subst e1 e2 e3; exact H b
theorem en_box (hx : ρ.ev x = some v) (hv : v.cells = cs.toArray) (hd : Nat.blt d n = true) (H : ∀ b, En n Φ (wpListIn (fence rd) 0 P ops Q rest) ((d, .pointer (some ⟨b, 0, none⟩)) :: ρ) h (box b T cs :: Γ)) :
    En n Φ (wpListIn (fence rd) 0 P ops Q (⟨some d, .box T x, ty, pos, af, none⟩ :: rest)) ρ h Γ :=
  en_op (opT_box hx hv) hd fun v h' Γ' _ ⟨b, e1, e2, e3⟩ => by subst e1 e2 e3; exact H b
theorem en_call {g : Operand} {xs : Array Operand} {ts : Array TypeId} {f : FuncId} {first cap : Array Value} {vs args : List Value} {Γ1 Δ : List HP} {R : Value → Heap → List HP → Prop}
    (c : CT P f args h Γ1 R) (hg : ρ.ev g = some (.func (.func f) first cap)) (hx : ρ.evs xs.toList = some vs) (ha : first.toList ++ vs ++ cap.toList = args) (hd : Nat.blt d n = true) [t : Tk Γ Γ1 Δ]
    (H : ∀ v h' Γ', h.sub h' → R v h' Γ' → En n Φ (wpListIn (fence rd) 0 P ops Q rest) ((d, v) :: ρ) h' (Γ' ++ Δ)) :
    En n Φ (wpListIn (fence rd) 0 P ops Q (⟨some d, .call { callee := .value g, args := xs, argTypes := ts }, ty, pos, af, none⟩ :: rest)) ρ h Γ :=
  en_op (opT_call hg hx ha c) hd fun v h' Γ' hs ⟨Γ2, hR, e⟩ => by subst e; exact H v h' Γ2 hs hR
theorem en_call0 {g : Operand} {xs : Array Operand} {ts : Array TypeId} {f : FuncId} {first cap : Array Value} {vs args : List Value} {Γ1 Δ : List HP} {R : Value → Heap → List HP → Prop}
    (c : CT P f args h Γ1 R) (hg : ρ.ev g = some (.func (.func f) first cap)) (hx : ρ.evs xs.toList = some vs) (ha : first.toList ++ vs ++ cap.toList = args) [t : Tk Γ Γ1 Δ]
    (H : ∀ v h' Γ', h.sub h' → R v h' Γ' → En n Φ (wpListIn (fence rd) 0 P ops Q rest) ρ h' (Γ' ++ Δ)) :
    En n Φ (wpListIn (fence rd) 0 P ops Q (⟨none, .call { callee := .value g, args := xs, argTypes := ts }, ty, pos, af, none⟩ :: rest)) ρ h Γ :=
  en_op0 (opT_call hg hx ha c) fun v h' Γ' hs ⟨Γ2, hR, e⟩ => by subst e; exact H v h' Γ2 hs hR
end en
end Go.Sx

/- A region whose order is drawn: what only reads (as far as a core of the state goes) may come up late; effects come in a known order. -/
namespace Go.Sx

/-! ### A part of what is known, as a chunk -/
def frz (k0 : Heap) : HP := fun k => k = k0
def Heap.diff (hc h0 : Heap) : Heap := fun b => match h0 b with | some _ => none | none => hc b
theorem Heap.diff_un {hc h0 : Heap} (s : h0.sub hc) : h0.un (hc.diff h0) = hc := funext fun b => by
  simp only [Heap.un, Heap.diff]
  cases e : h0 b with
  | none => simp
  | some o => simp [s b o e]
theorem Heap.disj_diff (hc h0 : Heap) : h0.disj (hc.diff h0) := fun b => by
  simp only [Heap.diff]
  cases e : h0 b with
  | none => exact .inl rfl
  | some o => exact .inr rfl
theorem Heap.diff_sub (hc h0 : Heap) : (hc.diff h0).sub hc := fun b o e => by
  simp only [Heap.diff] at e
  cases e' : h0 b with
  | none => rw [e'] at e; exact e
  | some o => rw [e'] at e; cases e
theorem St.expose {Φ : Fr} {hc h0 : Heap} {Γ : List HP} {w : World} (s : h0.sub hc) (x : St Φ hc Γ w) : St Φ h0 (frz (hc.diff h0) :: Γ) w := by
  obtain ⟨k, hs, hd, s0, s1, e⟩ := x
  exact St.mk (k1 := hc.diff h0) (k2 := k) rfl hs (hd.anti (Heap.diff_sub _ _) (Heap.sub.refl _)) (Heap.disj_diff _ _) (hd.anti s (Heap.sub.refl _)) (s0.mono s) (s0.mono (Heap.diff_sub _ _)) s1 e
theorem St.absorb {Φ : Fr} {hc h0 : Heap} {Γ : List HP} {w : World} (s : h0.sub hc) (x : St Φ h0 (frz (hc.diff h0) :: Γ) w) : St Φ hc Γ w := by
  obtain ⟨k1, k2, hp, h2, hd, d1, d2, s0, s1, s2, e⟩ := x.head
  simp only [frz] at hp
  subst hp
  rw [← Heap.diff_un s]
  exact ⟨k2, h2, Heap.un_disj d2 hd, s0.un s1, s2, e⟩
/-- A core of a state, the rest as a frame; and back. -/
theorem St.core {E : World} {Δ Γ0 Γx : List HP} {hc h0 : Heap} {w : World} (s : h0.sub hc) : St (E, Δ) hc (Γ0 ++ Γx) w ↔ St (E, frz (hc.diff h0) :: (Γx ++ Δ)) h0 Γ0 w :=
  ⟨fun x => St.frame_head.2 (St.expose s (St.frame.1 x)), fun x => St.frame.2 (St.absorb s (St.frame_head.1 x))⟩

section draw
variable (l : List Oper)
def dstOf (i : Nat) : Option Nat := (l[i]?).bind (·.dst)
def dirB (i j : Nat) : Bool := match l[i]? with
  | some o => o.after.toList.any fun e => Region.binds .any e && e.on == j
  | none => false
def lookB (i t : Nat) : Bool := match l[i]? with
  | some o => (o.looksAt l.toArray).contains t
  | none => false
/-- What comes ahead of an operation in whatever order, by edges in a row. -/
def clo (e : Nat) : List Nat := (List.range e).reverse.foldl (fun S i => if (dirB l e i || S.any fun m => dirB l m i) = true then i :: S else S) []
def chkAt (n i j : Nat) : Bool :=
  (!dirB l i j || decide (j < i)) &&
  match dstOf l j with
  | some t => decide (t < n) && (!lookB l i t || dirB l i j || dirB l j i) && (i == j || dstOf l i != some t)
  | none => true
def chkE (i : Nat) : Bool := match l[i]? with
  | some o => o.after.all fun e => !Region.binds .any e || decide (e.on < i)
  | none => true
def chk (n : Nat) : Bool := (List.range l.length).all fun i => chkE l i && (List.range l.length).all fun j => chkAt l n i j

variable {l} {n : Nat}
theorem chk_at (h : chk l n = true) {i j : Nat} (hi : i < l.length) (hj : j < l.length) : chkAt l n i j = true := by
  have h1 := List.all_eq_true.1 h i (List.mem_range.2 hi)
  exact List.all_eq_true.1 (Bool.and_eq_true_iff.1 h1).2 j (List.mem_range.2 hj)
theorem chk_e (h : chk l n = true) {i : Nat} (hi : i < l.length) {e : Edge} (he : e ∈ (l[i]).after) (hb : Region.binds .any e = true) : e.on < i := by
  have h1 := (Bool.and_eq_true_iff.1 (List.all_eq_true.1 h i (List.mem_range.2 hi))).1
  unfold chkE at h1
  rw [List.getElem?_eq_getElem hi] at h1
  simp only [Array.all_eq_true, Bool.or_eq_true, Bool.not_eq_true', decide_eq_true_eq] at h1
  obtain ⟨k, hk, hke⟩ := Array.mem_iff_getElem.1 he
  rcases h1 k hk with h2 | h2
  · rw [hke, hb] at h2; cases h2
  · rw [hke] at h2; exact h2
theorem chk_lt (h : chk l n = true) {i j : Nat} (hi : i < l.length) (hj : j < l.length) (hd : dirB l i j = true) : j < i := by
  have := chk_at h hi hj
  simp only [chkAt, hd, Bool.not_true, Bool.false_or, Bool.and_eq_true, decide_eq_true_eq] at this
  exact this.1
theorem chk_dst (h : chk l n = true) {i j t : Nat} (hi : i < l.length) (hj : j < l.length) (ht : dstOf l j = some t) : t < n ∧ (lookB l i t = true → dirB l i j = true ∨ dirB l j i = true) ∧ (i ≠ j → dstOf l i ≠ some t) := by
  have := chk_at h hi hj
  simp only [chkAt, ht, Bool.and_eq_true, decide_eq_true_eq, Bool.or_eq_true, Bool.not_eq_true', beq_iff_eq, bne_iff_ne] at this
  obtain ⟨_, ⟨h1, h2⟩, h3⟩ := this
  refine ⟨h1, fun hl => ?_, fun hne => ?_⟩
  · rcases h2 with (h2 | h2) | h2
    · rw [h2] at hl; cases hl
    · exact .inl h2
    · exact .inr h2
  · rcases h3 with h3 | h3
    · exact absurd h3 hne
    · exact h3

theorem ready_dir {listed : Array Bool} {i j : Nat} (h : i ∈ Region.ready .any l.toArray listed) (hd : dirB l i j = true) : listed.getD j false = true := by
  obtain ⟨_, o, ho, hall⟩ := mem_ready.1 h
  unfold dirB at hd
  have ho' : l[i]? = some o := by simpa using ho
  rw [ho'] at hd
  simp only [List.any_eq_true, Bool.and_eq_true, beq_iff_eq] at hd
  obtain ⟨k, hk, hb, he⟩ := hd
  have := hall _ (by simpa using hk) hb
  rw [he] at this; exact this
theorem ready_lt {listed : Array Bool} {i : Nat} (h : i ∈ Region.ready .any l.toArray listed) : i < l.length ∧ listed.getD i true = false := by
  obtain ⟨h0, o, ho, _⟩ := mem_ready.1 h
  have := (Array.getElem?_eq_some_iff.1 ho).1
  exact ⟨by simpa using this, h0⟩
theorem unl_of_getD {listed : Array Bool} {j : Nat} (h : listed.getD j true = false) : ¬ listed.getD j false = true := by
  intro h'
  rw [Array.getD_eq_getD_getElem?] at h h'
  cases e : listed[j]? with
  | none => rw [e] at h; simp at h
  | some b => rw [e] at h h'; simp at h h'; rw [h] at h'; cases h'
theorem set_same {listed : Array Bool} {j : Nat} (hj : j < listed.size) : (listed.setIfInBounds j true).getD j true = true := by
  simp [Array.getD_eq_getD_getElem?, hj]
/-- Where none is ready all are listed. -/
theorem all_listed (hc : chk l n = true) {listed : Array Bool} (hs : listed.size = l.length) (hr : Region.ready .any l.toArray listed = []) : ∀ i, i < l.length → ¬ listed.getD i true = false := by
  intro i
  induction i using Nat.strongRecOn with
  | _ i ih =>
    intro hi hu
    have hmem : i ∈ Region.ready .any l.toArray listed := by
      refine mem_ready.2 ⟨hu, l[i], by simp [hi], fun e he hb => ?_⟩
      have hlt : e.on < i := chk_e hc hi (by simpa using he) hb
      have hx := ih e.on hlt (by omega)
      cases hb' : listed.getD e.on false with
      | true => rfl
      | false =>
        exfalso; apply hx
        have hin : e.on < listed.size := by omega
        rw [Array.getD_eq_getD_getElem?] at hb' ⊢
        simp [hin] at hb' ⊢; exact hb'
    rw [hr] at hmem; cases hmem

variable (P : Program) (n : Nat) (rd : Option Nat) (Q : Exit → Act → World → Prop) (l)
/-- Operation i of the region, from a frame of which the slots that it looks at are known. -/
def EffAt (i : Nat) (σ : Env) (h : Heap) (Γ : List HP) (C : Value → Heap → List HP → Prop) : Prop :=
  ∀ (Ψ : Fr) (a : Act) (w : World) (K : Act → World → Prop), a.tmps.size = n → (∀ t v, lookB l i t = true → σ.get t = some v → a.tmps[t]? = some v) → St Ψ h Γ w →
    (∀ v h' Γ' w', h.sub h' → C v h' Γ' → St Ψ h' Γ' w' → K (a.put (dstOf l i) v) w') → wpOpIn (fence rd) 0 P l.toArray Q i K a w

def consO (d : Option Nat) (v : Value) (σ : Env) : Env := match d with
  | some d => (d, v) :: σ
  | none => σ

/-- The region in one order, effects that are not ordered in each of theirs. np: what has been read of the core so far. -/
inductive DP (Φ : Fr) : (todo np : List Nat) → Env → Heap → List HP → Heap → List HP → Prop
  | quiet {i : Nat} {rest np : List Nat} {σ : Env} {h0 hc : Heap} {Γ0 Γx : List HP} {d : Nat} {v : Value} : dstOf l i = some d → (rest.all fun k => !dirB l i k) = true → EffAt l P n rd Q i σ h0 Γ0 (Det v h0 Γ0) →
      DP Φ rest (i :: np) ((d, v) :: σ) h0 Γ0 hc Γx → DP Φ (i :: rest) np σ h0 Γ0 hc Γx
  | pure {i : Nat} {rest np : List Nat} {σ : Env} {h0 hc : Heap} {Γ0 Γx : List HP} {d : Nat} {v : Value} : dstOf l i = some d → (rest.all fun k => !dirB l i k) = true → (∀ h Γ, EffAt l P n rd Q i σ h Γ (Det v h Γ)) →
      DP Φ rest np ((d, v) :: σ) h0 Γ0 hc Γx → DP Φ (i :: rest) np σ h0 Γ0 hc Γx
  | eff {todo np : List Nat} {σ : Env} {h0 hc : Heap} {Γ0 Γx : List HP} (cands : List Nat) : todo ≠ [] →
      (todo.all fun k => cands.contains k || todo.any fun m => dirB l k m) = true → (cands.all fun e => todo.all fun k => !dirB l e k) = true →
      (C : Nat → Value → Heap → List HP → Prop) → (X : Nat → Value → Heap → List HP → List HP) → (∀ e, e ∈ cands → EffAt l P n rd Q e σ hc (Γ0 ++ Γx) (C e)) →
      (∀ e v h' Γ', e ∈ cands → hc.sub h' → C e v h' Γ' → Γ'.Perm (Γ0 ++ X e v h' Γ')) → (∀ e v h' Γ', e ∈ cands → hc.sub h' → C e v h' Γ' → DP Φ (todo.erase e) np (consO (dstOf l e) v σ) h0 Γ0 h' (X e v h' Γ')) → DP Φ todo np σ h0 Γ0 hc Γx
  | effT {e : Nat} {rest np : List Nat} {σ : Env} {h0 hc : Heap} {Γ0 Γx : List HP} (C : Value → Heap → List HP → Prop) :
      (rest.all fun k => (e :: rest).any fun m => dirB l k m) = true → ((e :: rest).all fun k => !dirB l e k) = true → (np.all fun k => (clo l e).contains k) = true →
      EffAt l P n rd Q e σ hc (Γ0 ++ Γx) C → (∀ v h' Γ', hc.sub h' → C v h' Γ' → DP Φ rest [] (consO (dstOf l e) v σ) h' Γ' h' []) → DP Φ (e :: rest) np σ h0 Γ0 hc Γx
  | done {np : List Nat} {σ : Env} {h0 hc : Heap} {Γ0 Γx : List HP} : En n Φ (Q .normal) σ hc (Γ0 ++ Γx) → DP Φ [] np σ h0 Γ0 hc Γx

/-- A read that may still come up: it is not listed, and the order has passed it. -/
def Lt (todo : List Nat) (listed : Array Bool) (j : Nat) : Prop := j < l.length ∧ listed.getD j true = false ∧ j ∉ todo

structure LateOK (todo np : List Nat) (σ : Env) (h0 : Heap) (Γ0 : List HP) (val : Nat → Value) (listed : Array Bool) (a : Act) (j : Nat) (d : Nat) (σj : Env) : Prop where
  dst : dstOf l j = some d
  quiet : EffAt l P n rd Q j σj h0 Γ0 (Det (val j) h0 Γ0)
  pure : j ∈ np ∨ ∀ h Γ, EffAt l P n rd Q j σj h Γ (Det (val j) h Γ)
  env : ∀ t v, lookB l j t = true → σj.get t = some v → a.tmps[t]? = some v ∨ ∃ k, Lt l todo listed k ∧ dirB l j k = true ∧ dstOf l k = some t ∧ val k = v
  old : ∀ k t, Lt l todo listed k → dirB l j k = true → dstOf l k = some t → lookB l j t = true → σj.get t = some (val k)
  no : ∀ k, k ∈ todo → dirB l j k = false
  cur : σ.get d = some (val j)

structure Cfg (Φ : Fr) (todo np : List Nat) (σ : Env) (h0 : Heap) (Γ0 : List HP) (hc : Heap) (Γx : List HP) (val : Nat → Value) (listed : Array Bool) (a : Act) (w : World) (rs : List Nat) : Prop where
  size : a.tmps.size = n
  lsz : listed.size = l.length
  dfr : a.defers = rs.map mark
  td : ∀ i, i ∈ todo → i < l.length ∧ listed.getD i true = false
  nd : todo.Nodup
  env : ∀ t v, σ.get t = some v → a.tmps[t]? = some v ∨ ∃ j, Lt l todo listed j ∧ dstOf l j = some t ∧ val j = v
  late : ∀ j, Lt l todo listed j → ∃ d σj, LateOK l P n rd Q todo np σ h0 Γ0 val listed a j d σj
  sub : h0.sub hc
  st : St (Φ.1, Marks rs ++ Φ.2) hc (Γ0 ++ Γx) w
  cl : ∀ i j, listed.getD i false = true → dirB l i j = true → listed.getD j false = true

variable {l P n rd Q}
theorem Act.put_size (a : Act) (d : Option Nat) (v : Value) : (a.put d v).tmps.size = a.tmps.size := by cases d <;> simp [Act.put]
theorem Act.put_get_ne (a : Act) {d : Option Nat} {t : Nat} (v : Value) (h : d ≠ some t) : (a.put d v).tmps[t]? = a.tmps[t]? := by
  cases d with
  | none => rfl
  | some d =>
    simp only [Act.put]
    rw [Array.getElem?_setIfInBounds_ne (fun e => h (by rw [e]))]
theorem Act.put_get_eq (a : Act) {d : Nat} (v : Value) (h : d < a.tmps.size) : (a.put (some d) v).tmps[d]? = some v := by
  simp [Act.put, h]
theorem Env.get_cons_eq (d : Nat) (v : Value) (σ : Env) : Env.get ((d, v) :: σ) d = some v := by simp [Env.get, Nat.beq_refl]
theorem Env.get_cons_ne {d t : Nat} (v : Value) (σ : Env) (h : d ≠ t) : Env.get ((d, v) :: σ) t = Env.get σ t := by
  have : Nat.beq d t = false := by
    cases hb : Nat.beq d t with
    | false => rfl
    | true => exact absurd (Nat.eq_of_beq_eq_true hb) h
  simp [Env.get, this]

def upd (val : Nat → Value) (i : Nat) (v : Value) : Nat → Value := fun k => if k = i then v else val k
theorem upd_ne (val : Nat → Value) {i k : Nat} (v : Value) (h : k ≠ i) : upd val i v k = val k := by simp [upd, h]
theorem upd_eq (val : Nat → Value) (i : Nat) (v : Value) : upd val i v i = v := by simp [upd]

theorem clo_listed {listed : Array Bool} {e : Nat} (hr : e ∈ Region.ready .any l.toArray listed) (cl : ∀ i j, listed.getD i false = true → dirB l i j = true → listed.getD j false = true) : ∀ (is S : List Nat), (∀ k ∈ S, listed.getD k false = true) →
    ∀ k ∈ is.foldl (fun S i => if (dirB l e i || S.any fun m => dirB l m i) = true then i :: S else S) S, listed.getD k false = true
  | [], S, h => h
  | i :: is, S, h => by
    rw [List.foldl_cons]
    refine clo_listed hr cl is _ ?_
    split
    · rename_i hc
      intro k hk
      rcases List.mem_cons.1 hk with rfl | hk
      · rcases Bool.or_eq_true_iff.1 hc with h1 | h1
        · exact ready_dir hr h1
        · obtain ⟨m, hm, hd⟩ := List.any_eq_true.1 h1
          exact cl m k (h m hm) hd
      · exact h k hk
    · exact h
theorem cl_set {listed : Array Bool} {j : Nat} (hr : j ∈ Region.ready .any l.toArray listed) (hsz : listed.size = l.length) (cl : ∀ i k, listed.getD i false = true → dirB l i k = true → listed.getD k false = true) :
    ∀ i k, (listed.setIfInBounds j true).getD i false = true → dirB l i k = true → (listed.setIfInBounds j true).getD k false = true := by
  intro i k hi hd
  have hjl := (ready_lt hr).1
  have key : listed.getD k false = true := by
    by_cases e : i = j
    · subst e; exact ready_dir hr hd
    · rw [getD_set_ne false (Ne.symm e)] at hi; exact cl i k hi hd
  by_cases e : k = j
  · subst e
    simp [Array.getD_eq_getD_getElem?, hsz, hjl]
  · rw [getD_set_ne false (Ne.symm e)]; exact key

/-- A late read comes up. -/
theorem late_step (hchk : chk l n = true) {Φ : Fr} {todo np : List Nat} {σ : Env} {h0 hc : Heap} {Γ0 Γx : List HP} {val : Nat → Value} {listed : Array Bool} {a : Act} {w : World} {rs : List Nat} {j : Nat} {K : Act → World → Prop}
    (c : Cfg l P n rd Q Φ todo np σ h0 Γ0 hc Γx val listed a w rs) (hr : j ∈ Region.ready .any l.toArray listed) (hj : j ∉ todo)
    (hK : ∀ a' w', Cfg l P n rd Q Φ todo np σ h0 Γ0 hc Γx val (listed.setIfInBounds j true) a' w' rs → K a' w') : wpOpIn (fence rd) 0 P l.toArray Q j K a w := by
  obtain ⟨hjl, hju⟩ := ready_lt hr
  have hlt : Lt l todo listed j := ⟨hjl, hju, hj⟩
  obtain ⟨d, σj, ok⟩ := c.late j hlt
  refine ok.quiet (Φ.1, frz (hc.diff h0) :: (Γx ++ (Marks rs ++ Φ.2))) a w K c.size (fun t v hl hv => ?_) ((St.core c.sub).1 c.st) fun v h' Γ' w' _ ⟨e1, e2, e3⟩ s' => ?_
  · rcases ok.env t v hl hv with h1 | ⟨k, hk, hd, _⟩
    · exact h1
    · exact absurd (ready_dir hr hd) (unl_of_getD hk.2.1)
  · subst e1 e2 e3
    have hd := ok.dst
    rw [hd]
    have hdn : d < n := (chk_dst hchk hjl hjl hd).1
    have hds : d < a.tmps.size := by rw [c.size]; exact hdn
    have hLt : ∀ k, Lt l todo (listed.setIfInBounds j true) k → Lt l todo listed k ∧ k ≠ j := fun k ⟨x1, x2, x3⟩ => by
      have hne : k ≠ j := fun e => by
        rw [e, set_same (by rw [c.lsz]; exact hjl)] at x2; cases x2
      rw [getD_set_ne true (Ne.symm hne)] at x2
      exact ⟨⟨x1, x2, x3⟩, hne⟩
    have hLt' : ∀ k, Lt l todo listed k → k ≠ j → Lt l todo (listed.setIfInBounds j true) k := fun k ⟨x1, x2, x3⟩ hne =>
      ⟨x1, by rw [getD_set_ne true (Ne.symm hne)]; exact x2, x3⟩
    refine hK _ w' ⟨by rw [Act.put_size, c.size], by simp [c.lsz], c.dfr, fun i hi => ⟨(c.td i hi).1, ?_⟩, c.nd, fun t v hv => ?_, fun k hk => ?_, c.sub, (St.core c.sub).2 s', cl_set hr c.lsz c.cl⟩
    · rw [getD_set_ne true (fun e => by subst e; exact hj hi)]; exact (c.td i hi).2
    · by_cases htd : d = t
      · subst htd
        rw [ok.cur] at hv
        simp only [Option.some.injEq] at hv
        subst hv
        exact .inl (Act.put_get_eq a _ hds)
      · rw [Act.put_get_ne a _ (by simpa using htd)]
        rcases c.env t v hv with h1 | ⟨k, hk, hkd, hkv⟩
        · exact .inl h1
        · exact .inr ⟨k, hLt' k hk (fun e => by subst e; rw [hd] at hkd; exact htd (by simpa using hkd)), hkd, hkv⟩
    · obtain ⟨hk0, hkj⟩ := hLt k hk
      obtain ⟨dk, σk, okk⟩ := c.late k hk0
      refine ⟨dk, σk, okk.dst, okk.quiet, okk.pure, fun t v hl hv => ?_, fun m t hm hdm hdt hlt => okk.old m t (hLt m hm).1 hdm hdt hlt, okk.no, okk.cur⟩
      by_cases htd : d = t
      · subst htd
        rcases (chk_dst hchk hk0.1 hjl hd).2.1 hl with h1 | h1
        · have := okk.old j d hlt h1 hd hl
          rw [this] at hv
          simp only [Option.some.injEq] at hv
          subst hv
          exact .inl (Act.put_get_eq a _ hds)
        · exact absurd (ready_dir hr h1) (unl_of_getD hk0.2.1)
      · rw [Act.put_get_ne a _ (by simpa using htd)]
        rcases okk.env t v hl hv with h1 | ⟨m, hm, hmd, hmt, hmv⟩
        · exact .inl h1
        · exact .inr ⟨m, hLt' m hm (fun e => by subst e; rw [hd] at hmt; exact htd (by simpa using hmt)), hmd, hmt, hmv⟩

/-- An effect comes up. -/
theorem eff_step (hchk : chk l n = true) {Φ : Fr} {todo np : List Nat} {σ : Env} {h0 hc : Heap} {Γ0 Γx : List HP} {val : Nat → Value} {listed : Array Bool} {a : Act} {w : World} {rs : List Nat} {e : Nat} {K : Act → World → Prop} {C : Value → Heap → List HP → Prop}
    (c : Cfg l P n rd Q Φ todo np σ h0 Γ0 hc Γx val listed a w rs) (hr : e ∈ Region.ready .any l.toArray listed) (he : e ∈ todo) (t : EffAt l P n rd Q e σ hc (Γ0 ++ Γx) C)
    (hK : ∀ v h' Γ' a' w', hc.sub h' → C v h' Γ' → St (Φ.1, Marks rs ++ Φ.2) h' Γ' w' → (∀ np' h1 Γ1 Γx1, h1.sub h' → Γ'.Perm (Γ1 ++ Γx1) → (∀ j d σj, Lt l todo listed j → dirB l e j = false → LateOK l P n rd Q todo np σ h0 Γ0 val listed a j d σj → EffAt l P n rd Q j σj h1 Γ1 (Det (val j) h1 Γ1) ∧ (j ∈ np' ∨ ∀ h Γ, EffAt l P n rd Q j σj h Γ (Det (val j) h Γ))) →
      Cfg l P n rd Q Φ (todo.erase e) np' (consO (dstOf l e) v σ) h1 Γ1 h' Γx1 val (listed.setIfInBounds e true) a' w' rs) → K a' w') : wpOpIn (fence rd) 0 P l.toArray Q e K a w := by
  obtain ⟨hel, heu⟩ := ready_lt hr
  refine t (Φ.1, Marks rs ++ Φ.2) a w K c.size (fun t v hl hv => ?_) c.st fun v h' Γ' w' hs hC s' => ?_
  · rcases c.env t v hv with h1 | ⟨j, hj, hjd, hjv⟩
    · exact h1
    · exfalso
      rcases (chk_dst hchk hel hj.1 hjd).2.1 hl with h1 | h1
      · exact unl_of_getD hj.2.1 (ready_dir hr h1)
      · obtain ⟨d, σj, ok⟩ := c.late j hj
        rw [ok.no e he] at h1; cases h1
  · refine hK v h' Γ' _ w' hs hC s' fun np' h1 Γ1 Γx1 hsub hperm hq => ?_
    have hLt : ∀ k, Lt l (todo.erase e) (listed.setIfInBounds e true) k → Lt l todo listed k ∧ k ≠ e := fun k ⟨x1, x2, x3⟩ => by
      have hne : k ≠ e := fun e' => by
        rw [e', set_same (by rw [c.lsz]; exact hel)] at x2; cases x2
      rw [getD_set_ne true (Ne.symm hne)] at x2
      exact ⟨⟨x1, x2, fun hm => x3 ((List.mem_erase_of_ne hne).2 hm)⟩, hne⟩
    have hLt' : ∀ k, Lt l todo listed k → Lt l (todo.erase e) (listed.setIfInBounds e true) k := fun k ⟨x1, x2, x3⟩ => by
      have hne : k ≠ e := fun e' => x3 (e' ▸ he)
      exact ⟨x1, by rw [getD_set_ne true (Ne.symm hne)]; exact x2, fun hm => x3 (List.mem_of_mem_erase hm)⟩
    refine ⟨by rw [Act.put_size, c.size], by simp [c.lsz], by cases hd : dstOf l e <;> exact c.dfr, fun i hi => ?_, c.nd.erase e, fun t v' hv => ?_, fun k hk => ?_, hsub, s'.perm hperm, cl_set hr c.lsz c.cl⟩
    · have hne : i ≠ e := fun e' => by subst e'; exact (List.Nodup.mem_erase_iff c.nd).1 hi |>.1 rfl
      have hm := List.mem_of_mem_erase hi
      exact ⟨(c.td i hm).1, by rw [getD_set_ne true (Ne.symm hne)]; exact (c.td i hm).2⟩
    · cases hd : dstOf l e with
      | none =>
        rw [hd] at hv
        rcases c.env t v' hv with h1 | ⟨j, hj, hjd, hjv⟩
        · exact .inl h1
        · exact .inr ⟨j, hLt' j hj, hjd, hjv⟩
      | some d =>
        rw [hd] at hv
        have hdn : d < n := (chk_dst hchk hel hel hd).1
        by_cases htd : d = t
        · subst htd
          rw [consO, Env.get_cons_eq] at hv
          simp only [Option.some.injEq] at hv
          subst hv
          exact .inl (Act.put_get_eq a _ (by rw [c.size]; exact hdn))
        · rw [consO, Env.get_cons_ne _ _ htd] at hv
          rw [Act.put_get_ne a _ (by simpa using htd)]
          rcases c.env t v' hv with h1 | ⟨j, hj, hjd, hjv⟩
          · exact .inl h1
          · exact .inr ⟨j, hLt' j hj, hjd, hjv⟩
    · obtain ⟨hk0, hke⟩ := hLt k hk
      obtain ⟨dk, σk, ok⟩ := c.late k hk0
      have hnd : dirB l e k = false := by
        cases hb : dirB l e k with
        | false => rfl
        | true => exact absurd (ready_dir hr hb) (unl_of_getD hk0.2.1)
      obtain ⟨q1, q2⟩ := hq k dk σk hk0 hnd ok
      refine ⟨dk, σk, ok.dst, q1, q2, fun t v' hl hv => ?_, fun m t hm hdm hdt hlt => ok.old m t (hLt m hm).1 hdm hdt hlt, fun m hm => ok.no m (List.mem_of_mem_erase hm), ?_⟩
      · have hne : dstOf l e ≠ some t := fun hd => by
          rcases (chk_dst hchk hk0.1 hel hd).2.1 hl with h1 | h1
          · rw [ok.no e he] at h1; cases h1
          · rw [hnd] at h1; cases h1
        rw [Act.put_get_ne a _ hne]
        rcases ok.env t v' hl hv with h1 | ⟨m, hm, hmd, hmt, hmv⟩
        · exact .inl h1
        · exact .inr ⟨m, hLt' m hm, hmd, hmt, hmv⟩
      · cases hd : dstOf l e with
        | none => exact ok.cur
        | some d =>
          have hne : d ≠ dk := fun e' => by
            subst e'
            exact (chk_dst hchk hel hk0.1 ok.dst).2.2 (Ne.symm hke) hd
          rw [consO, Env.get_cons_ne _ _ hne]; exact ok.cur

theorem erase_fuel {S : List Nat} {fuel j : Nat} {listed : Array Bool} (hS : S.length ≤ fuel + 1) (hu : ∀ i, i < l.length → listed.getD i true = false → i ∈ S) (hj : j < l.length) (hju : listed.getD j true = false) (hsz : listed.size = l.length) :
    (S.erase j).length ≤ fuel ∧ ∀ i, i < l.length → (listed.setIfInBounds j true).getD i true = false → i ∈ S.erase j := by
  have hm := hu j hj hju
  refine ⟨by rw [List.length_erase_of_mem hm]; omega, fun i hi hiu => ?_⟩
  have hne : i ≠ j := fun e => by rw [e, set_same (by omega)] at hiu; cases hiu
  rw [getD_set_ne true (Ne.symm hne)] at hiu
  exact (List.mem_erase_of_ne hne).2 (hu i hi hiu)

theorem dp_sound (hchk : chk l n = true) {Φ : Fr} {todo np : List Nat} {σ : Env} {h0 hc : Heap} {Γ0 Γx : List HP} (dp : DP l P n rd Q Φ todo np σ h0 Γ0 hc Γx) :
    ∀ (fuel : Nat) (S : List Nat) (val : Nat → Value) (listed : Array Bool) (a : Act) (w : World) (rs : List Nat), Cfg l P n rd Q Φ todo np σ h0 Γ0 hc Γx val listed a w rs →
      S.length ≤ fuel → (∀ i, i < l.length → listed.getD i true = false → i ∈ S) → wpAnyIn (fence rd) 0 P .any l.toArray Q fuel listed a w := by
  induction dp with
  | @quiet i rest np σ h0 hc Γ0 Γx d v hd hno hq _ ih =>
    intro fuel S val listed a w rs c hS hu
    have hi := c.td i (by simp)
    have hnd := List.nodup_cons.1 c.nd
    have hval : ∀ k, k ≠ i → upd val i v k = val k := fun k hk => upd_ne val v hk
    have hLt : ∀ k, Lt l rest listed k → k = i ∨ Lt l (i :: rest) listed k := fun k ⟨x1, x2, x3⟩ => by
      by_cases h : k = i
      · exact .inl h
      · exact .inr ⟨x1, x2, by simp [h, x3]⟩
    have hLt' : ∀ k, Lt l (i :: rest) listed k → Lt l rest listed k ∧ k ≠ i := fun k ⟨x1, x2, x3⟩ => by
      simp only [List.mem_cons, not_or] at x3
      exact ⟨⟨x1, x2, x3.2⟩, x3.1⟩
    have hLi : Lt l rest listed i := ⟨hi.1, hi.2, hnd.1⟩
    refine ih fuel S (upd val i v) listed a w rs ⟨c.size, c.lsz, c.dfr, fun k hk => c.td k (by simp [hk]), hnd.2, fun t u hv => ?_, fun k hk => ?_, c.sub, c.st, c.cl⟩ hS hu
    · by_cases htd : d = t
      · subst htd
        rw [Env.get_cons_eq] at hv
        exact .inr ⟨i, hLi, hd, by rw [upd_eq]; simpa using hv⟩
      · rw [Env.get_cons_ne _ _ htd] at hv
        rcases c.env t u hv with h1 | ⟨j, hj, hjd, hjv⟩
        · exact .inl h1
        · exact .inr ⟨j, (hLt' j hj).1, hjd, by rw [hval j (hLt' j hj).2]; exact hjv⟩
    · rcases hLt k hk with rfl | hk0
      · refine ⟨d, σ, hd, by rw [upd_eq]; exact hq, .inl (by simp), fun t u hl hv => ?_, fun m t hm hdm hdt hlt => ?_, fun m hm => by simpa using List.all_eq_true.1 hno m hm, by rw [upd_eq, Env.get_cons_eq]⟩
        · rcases c.env t u hv with h1 | ⟨j, hj, hjd, hjv⟩
          · exact .inl h1
          · refine .inr ⟨j, (hLt' j hj).1, ?_, hjd, by rw [hval j (hLt' j hj).2]; exact hjv⟩
            rcases (chk_dst hchk hi.1 hj.1 hjd).2.1 hl with h1 | h1
            · exact h1
            · obtain ⟨dj, σj, ok⟩ := c.late j hj
              rw [ok.no k (by simp)] at h1; cases h1
        · rcases hLt m hm with rfl | hm0
          · exact absurd (chk_lt hchk hi.1 hi.1 hdm) (Nat.lt_irrefl _)
          · obtain ⟨dm, σm, okm⟩ := c.late m hm0
            have : dm = t := by have := okm.dst; rw [hdt] at this; simpa using this.symm
            subst this
            rw [hval m (hLt' m hm0).2]; exact okm.cur
      · obtain ⟨dk, σk, ok⟩ := c.late k hk0
        have hki := (hLt' k hk0).2
        refine ⟨dk, σk, ok.dst, by rw [hval k hki]; exact ok.quiet, ?_, fun t u hl hv => ?_, fun m t hm hdm hdt hlt => ?_, fun m hm => ok.no m (by simp [hm]), ?_⟩
        · rw [hval k hki]
          rcases ok.pure with h1 | h1
          · exact .inl (by simp [h1])
          · exact .inr h1
        · rcases ok.env t u hl hv with h1 | ⟨m, hm, hmd, hmt, hmv⟩
          · exact .inl h1
          · exact .inr ⟨m, (hLt' m hm).1, hmd, hmt, by rw [hval m (hLt' m hm).2]; exact hmv⟩
        · rcases hLt m hm with rfl | hm0
          · rw [ok.no m (by simp)] at hdm; cases hdm
          · rw [hval m (hLt' m hm0).2]; exact ok.old m t hm0 hdm hdt hlt
        · have hne : d ≠ dk := fun e => by
            subst e
            exact (chk_dst hchk hi.1 hk0.1 ok.dst).2.2 (Ne.symm hki) hd
          rw [Env.get_cons_ne _ _ hne, hval k hki]; exact ok.cur
  | @pure i rest np σ h0 hc Γ0 Γx d v hd hno hq _ ih =>
    intro fuel S val listed a w rs c hS hu
    have hi := c.td i (by simp)
    have hnd := List.nodup_cons.1 c.nd
    have hval : ∀ k, k ≠ i → upd val i v k = val k := fun k hk => upd_ne val v hk
    have hLt : ∀ k, Lt l rest listed k → k = i ∨ Lt l (i :: rest) listed k := fun k ⟨x1, x2, x3⟩ => by
      by_cases h : k = i
      · exact .inl h
      · exact .inr ⟨x1, x2, by simp [h, x3]⟩
    have hLt' : ∀ k, Lt l (i :: rest) listed k → Lt l rest listed k ∧ k ≠ i := fun k ⟨x1, x2, x3⟩ => by
      simp only [List.mem_cons, not_or] at x3
      exact ⟨⟨x1, x2, x3.2⟩, x3.1⟩
    have hLi : Lt l rest listed i := ⟨hi.1, hi.2, hnd.1⟩
    refine ih fuel S (upd val i v) listed a w rs ⟨c.size, c.lsz, c.dfr, fun k hk => c.td k (by simp [hk]), hnd.2, fun t u hv => ?_, fun k hk => ?_, c.sub, c.st, c.cl⟩ hS hu
    · by_cases htd : d = t
      · subst htd
        rw [Env.get_cons_eq] at hv
        exact .inr ⟨i, hLi, hd, by rw [upd_eq]; simpa using hv⟩
      · rw [Env.get_cons_ne _ _ htd] at hv
        rcases c.env t u hv with h1 | ⟨j, hj, hjd, hjv⟩
        · exact .inl h1
        · exact .inr ⟨j, (hLt' j hj).1, hjd, by rw [hval j (hLt' j hj).2]; exact hjv⟩
    · rcases hLt k hk with rfl | hk0
      · refine ⟨d, σ, hd, by rw [upd_eq]; exact hq _ _, .inr (by rw [upd_eq]; exact hq), fun t u hl hv => ?_, fun m t hm hdm hdt hlt => ?_, fun m hm => by simpa using List.all_eq_true.1 hno m hm, by rw [upd_eq, Env.get_cons_eq]⟩
        · rcases c.env t u hv with h1 | ⟨j, hj, hjd, hjv⟩
          · exact .inl h1
          · refine .inr ⟨j, (hLt' j hj).1, ?_, hjd, by rw [hval j (hLt' j hj).2]; exact hjv⟩
            rcases (chk_dst hchk hi.1 hj.1 hjd).2.1 hl with h1 | h1
            · exact h1
            · obtain ⟨dj, σj, ok⟩ := c.late j hj
              rw [ok.no k (by simp)] at h1; cases h1
        · rcases hLt m hm with rfl | hm0
          · exact absurd (chk_lt hchk hi.1 hi.1 hdm) (Nat.lt_irrefl _)
          · obtain ⟨dm, σm, okm⟩ := c.late m hm0
            have : dm = t := by have := okm.dst; rw [hdt] at this; simpa using this.symm
            subst this
            rw [hval m (hLt' m hm0).2]; exact okm.cur
      · obtain ⟨dk, σk, ok⟩ := c.late k hk0
        have hki := (hLt' k hk0).2
        refine ⟨dk, σk, ok.dst, by rw [hval k hki]; exact ok.quiet, ?_, fun t u hl hv => ?_, fun m t hm hdm hdt hlt => ?_, fun m hm => ok.no m (by simp [hm]), ?_⟩
        · rw [hval k hki]; exact ok.pure
        · rcases ok.env t u hl hv with h1 | ⟨m, hm, hmd, hmt, hmv⟩
          · exact .inl h1
          · exact .inr ⟨m, (hLt' m hm).1, hmd, hmt, by rw [hval m (hLt' m hm).2]; exact hmv⟩
        · rcases hLt m hm with rfl | hm0
          · rw [ok.no m (by simp)] at hdm; cases hdm
          · rw [hval m (hLt' m hm0).2]; exact ok.old m t hm0 hdm hdt hlt
        · have hne : d ≠ dk := fun e => by
            subst e
            exact (chk_dst hchk hi.1 hk0.1 ok.dst).2.2 (Ne.symm hki) hd
          rw [Env.get_cons_ne _ _ hne, hval k hki]; exact ok.cur
  | @eff todo np σ h0 hc Γ0 Γx cands hne ho hlast C X hC hX _ ih =>
    intro fuel
    induction fuel with
    | zero =>
      intro S val listed a w rs c hS hu
      obtain ⟨i, rest, rfl⟩ := List.exists_cons_of_ne_nil hne
      have := hu i (c.td i (by simp)).1 (c.td i (by simp)).2
      have h0 : S = [] := List.eq_nil_of_length_eq_zero (by omega)
      rw [h0] at this; cases this
    | succ fuel ihf =>
      intro S val listed a w rs c hS hu
      refine ⟨fun hr => ?_, fun j hj => ?_⟩
      · obtain ⟨i, rest, rfl⟩ := List.exists_cons_of_ne_nil hne
        exact absurd (c.td i (by simp)).2 (all_listed hchk c.lsz hr i (c.td i (by simp)).1)
      · obtain ⟨hjl, hju⟩ := ready_lt hj
        obtain ⟨hf1, hf2⟩ := erase_fuel hS hu hjl hju c.lsz
        by_cases hjt : j ∈ todo
        · have hcand : j ∈ cands := by
            have h1 := List.all_eq_true.1 ho j hjt
            rcases Bool.or_eq_true_iff.1 h1 with h2 | h2
            · simpa using h2
            · obtain ⟨m, hm, hmd⟩ := List.any_eq_true.1 h2
              exact absurd (ready_dir hj hmd) (unl_of_getD (c.td m hm).2)
          refine eff_step hchk c hj hjt (hC j hcand) fun v h' Γ' a' w' hs hCv s' mk => ?_
          exact ih j v h' Γ' hcand hs hCv fuel (S.erase j) val _ a' w' rs (mk np h0 Γ0 (X j v h' Γ') (c.sub.trans hs) (hX j v h' Γ' hcand hs hCv) fun k d σk _ _ ok => ⟨ok.quiet, ok.pure⟩) hf1 hf2
        · exact late_step hchk c hj hjt fun a' w' c' => ihf (S.erase j) val _ a' w' rs c' hf1 hf2
  | @effT e rest np σ h0 hc Γ0 Γx C ho hlast hnp hC _ ih =>
    intro fuel
    induction fuel with
    | zero =>
      intro S val listed a w rs c hS hu
      have := hu e (c.td e (by simp)).1 (c.td e (by simp)).2
      have h0 : S = [] := List.eq_nil_of_length_eq_zero (by omega)
      rw [h0] at this; cases this
    | succ fuel ihf =>
      intro S val listed a w rs c hS hu
      refine ⟨fun hr => ?_, fun j hj => ?_⟩
      · exact absurd (c.td e (by simp)).2 (all_listed hchk c.lsz hr e (c.td e (by simp)).1)
      · obtain ⟨hjl, hju⟩ := ready_lt hj
        obtain ⟨hf1, hf2⟩ := erase_fuel hS hu hjl hju c.lsz
        by_cases hjt : j ∈ e :: rest
        · have hje : j = e := by
            rcases List.mem_cons.1 hjt with h1 | h1
            · exact h1
            · obtain ⟨m, hm, hmd⟩ := List.any_eq_true.1 (List.all_eq_true.1 ho j h1)
              exact absurd (ready_dir hj hmd) (unl_of_getD (c.td m hm).2)
          subst hje
          refine eff_step hchk c hj hjt hC fun v h' Γ' a' w' hs hCv s' mk => ?_
          have hm := mk [] h' Γ' [] (.refl _) (by simp) fun k d σk hk hdk ok => by
            rcases ok.pure with h1 | h1
            · have h2 := List.all_eq_true.1 hnp k h1
              have h3 := clo_listed hj c.cl (List.range j).reverse [] (fun _ hx => by cases hx) k (by simpa [clo] using h2)
              exact absurd h3 (unl_of_getD hk.2.1)
            · exact ⟨h1 _ _, .inr h1⟩
          have her : (j :: rest).erase j = rest := by simp
          rw [her] at hm
          exact ih v h' Γ' hs hCv fuel (S.erase j) val _ a' w' rs hm hf1 hf2
        · exact late_step hchk c hj hjt fun a' w' c' => ihf (S.erase j) val _ a' w' rs c' hf1 hf2
  | @done np σ h0 hc Γ0 Γx H =>
    intro fuel
    have fin : ∀ (val : Nat → Value) (listed : Array Bool) (a : Act) (w : World) (rs : List Nat), Cfg l P n rd Q Φ [] np σ h0 Γ0 hc Γx val listed a w rs → (∀ i, i < l.length → ¬ listed.getD i true = false) → Q .normal a w :=
      fun val listed a w rs c hall => H a w rs ⟨c.size, fun t v hv => by
        rcases c.env t v hv with h1 | ⟨j, hj, _⟩
        · exact h1
        · exact absurd hj.2.1 (hall j hj.1)⟩ c.dfr c.st
    induction fuel with
    | zero =>
      intro S val listed a w rs c hS hu
      have h0 : S = [] := List.eq_nil_of_length_eq_zero (by omega)
      have hall : ∀ i, i < l.length → ¬ listed.getD i true = false := fun i hi hiu => by
        have := hu i hi hiu
        rw [h0] at this; cases this
      refine ⟨List.eq_nil_iff_forall_not_mem.2 fun i hi => ?_, fin val listed a w rs c hall⟩
      exact hall i (ready_lt hi).1 (ready_lt hi).2
    | succ fuel ihf =>
      intro S val listed a w rs c hS hu
      refine ⟨fun hr => fin val listed a w rs c (all_listed hchk c.lsz hr), fun j hj => ?_⟩
      obtain ⟨hjl, hju⟩ := ready_lt hj
      obtain ⟨hf1, hf2⟩ := erase_fuel hS hu hjl hju c.lsz
      exact late_step hchk c hj (by simp) fun a' w' c' => ihf (S.erase j) val _ a' w' rs c' hf1 hf2

/-- The region. -/
theorem en_draw {Φ : Fr} {id : Nat} {ρ : Env} {h : Heap} {Γ Γ0 Γx : List HP} (ord : List Nat) (hm : P.follows .mixedOrders = true) (hchk : chk l n = true)
    (hord : (ord.all (fun i => decide (i < l.length)) && (List.range l.length).all fun i => ord.contains i) = true) (hnd : ord.Nodup) (t : Γ.Perm (Γ0 ++ Γx)) (dp : DP l P n rd Q Φ ord [] ρ h Γ0 h Γx) :
    En n Φ ((Code.region id l.toArray true).wpIn (fence rd) 0 P Q) ρ h Γ := by
  intro a w rs e d s
  obtain ⟨ho1, ho2⟩ := Bool.and_eq_true_iff.1 hord
  refine wpIn_region_any hm ?_
  have hsz : l.toArray.size = l.length := by simp
  rw [hsz]
  refine dp_sound hchk dp l.length (List.range l.length) (fun _ => undef) _ a _ rs ⟨e.size, by simp, d, fun i hi => ?_, hnd, fun t' v hv => .inl (e.get t' v hv), fun j hj => ?_, .refl _, ?_, fun i j hi _ => ?_⟩ (by simp) (fun i hi _ => List.mem_range.2 hi)
  · have hil : i < l.length := by simpa using List.all_eq_true.1 ho1 i hi
    exact ⟨hil, by simp [Array.getD_eq_getD_getElem?, hil]⟩
  · exact absurd (by simpa using List.all_eq_true.1 ho2 j (List.mem_range.2 hj.1)) hj.2.2
  · obtain ⟨k, x1, x2, x3, x4, x5⟩ := s.perm t
    exact ⟨k, x1, x2, x3, x4, ⟨x5.os, x5.tape, x5.output⟩⟩
  · exfalso
    rw [Array.getD_eq_getD_getElem?] at hi
    by_cases hil : i < l.length <;> simp [hil] at hi
end draw
end Go.Sx

/- An operation in a region that draws, from what it does with its whole frame known. -/
namespace Go.Sx

def tame : Op → Bool
  | .select _ _ => false
  | .defer _ => false
  | _ => true
def isB (u : Value) (want : Bool) : Bool := match u with
  | .bool b => b == want
  | _ => false
def fillE : Env → Array Value → Array Value
  | [], x => x
  | (t, v) :: σ, x => (fillE σ x).setIfInBounds t v
theorem fillE_size (σ : Env) (x : Array Value) : (fillE σ x).size = x.size := by
  induction σ with
  | nil => rfl
  | cons p σ ih => obtain ⟨t, v⟩ := p; simp [fillE, ih]
theorem fillE_get (σ : Env) (x : Array Value) (t : Nat) (v : Value) (h : σ.get t = some v) (ht : t < x.size) : (fillE σ x)[t]? = some v := by
  induction σ with
  | nil => cases h
  | cons p σ ih =>
    obtain ⟨t', u⟩ := p
    simp only [fillE]
    by_cases e : t' = t
    · subst e
      rw [Env.get_cons_eq] at h
      simp only [Option.some.injEq] at h
      subst h
      simp [fillE_size, ht]
    · rw [Env.get_cons_ne _ _ e] at h
      rw [Array.getElem?_setIfInBounds_ne e]; exact ih h
theorem fillE_none (σ : Env) (x : Array Value) (t : Nat) (h : σ.get t = none) : (fillE σ x)[t]? = x[t]? := by
  induction σ with
  | nil => rfl
  | cons p σ ih =>
    obtain ⟨t', u⟩ := p
    simp only [fillE]
    by_cases e : t' = t
    · subst e; rw [Env.get_cons_eq] at h; cases h
    · rw [Env.get_cons_ne _ _ e] at h
      rw [Array.getElem?_setIfInBounds_ne e]; exact ih h
theorem env_all_lt {σ : Env} {n : Nat} (h : (σ.all fun p => Nat.blt p.1 n) = true) {t : Nat} {v : Value} (hv : σ.get t = some v) : t < n := by
  induction σ with
  | nil => cases hv
  | cons p σ ih =>
    obtain ⟨t', u⟩ := p
    simp only [List.all_cons, Bool.and_eq_true] at h
    by_cases e : t' = t
    · subst e; simpa [Nat.blt_eq] using h.1
    · rw [Env.get_cons_ne _ _ e] at hv; exact ih h.2 hv

section
variable {l : List Oper} {P : Program} {n : Nat} {rd : Option Nat} {Q : Exit → Act → World → Prop} {i : Nat} {σ : Env} {h : Heap} {Γ : List HP} {C : Value → Heap → List HP → Prop}

theorem put_eq_of {a b : Act} {d : Option Nat} {v u : Value} (hs : a.tmps.size = b.tmps.size) (e : b.put d v = b.put d u) : a.put d v = a.put d u := by
  cases d with
  | none => rfl
  | some d =>
    by_cases hd : d < b.tmps.size
    · have h1 : (b.put (some d) v).tmps[d]? = (b.put (some d) u).tmps[d]? := by rw [e]
      rw [Act.put_get_eq b v hd, Act.put_get_eq b u hd] at h1
      simp only [Option.some.injEq] at h1
      rw [h1]
    · have : ∀ x : Value, a.put (some d) x = a := fun x => by
        simp only [Act.put]
        have : a.tmps.setIfInBounds d x = a.tmps := Array.setIfInBounds_eq_of_size_le (by omega)
        rw [this]
      rw [this, this]

/-- In a frame of which only the slots that it looks at are known. -/
theorem opT_local {o : Oper} (hsel : tame o.op = true) (hσ : (σ.all fun p => Nat.blt p.1 n) = true) (t : OpT P n o σ h Γ C)
    (Ψ : Fr) (a : Act) (w : World) (K : Act → World → Prop) (hsz : a.tmps.size = n) (henv : ∀ t v, (o.looksAt l.toArray).contains t = true → σ.get t = some v → a.tmps[t]? = some v) (s : St Ψ h Γ w)
    (hK : ∀ v h' Γ' w', h.sub h' → C v h' Γ' → St Ψ h' Γ' w' → K (a.put o.dst v) w') : o.wpIn (fence rd) 0 P a w K Q := by
  let b : Act := { a with tmps := fillE σ a.tmps }
  have hb : EnvOK n b σ := ⟨by show (fillE σ a.tmps).size = n; rw [fillE_size, hsz], fun t v hv => fillE_get σ a.tmps t v hv (by rw [hsz]; exact env_all_lt hσ hv)⟩
  have hdef : ∀ c, o.op ≠ .defer c := fun c e => by rw [e] at hsel; cases hsel
  have hs' : ∀ cs bl, o.op ≠ .select cs bl := fun c b e => by rw [e] at hsel; cases hsel
  have hev : ∀ x ∈ o.op.operands, a.eval x = b.eval x := fun x hx => by
    cases x with
    | tmp t =>
      have hl : (o.looksAt l.toArray).contains t = true := by
        simp only [List.contains_iff_mem]
        exact List.mem_append_left _ (List.mem_filterMap.2 ⟨.tmp t, by simpa using hx, rfl⟩)
      have : a.tmps[t]? = (fillE σ a.tmps)[t]? := by
        cases hg : σ.get t with
        | none => rw [fillE_none _ _ _ hg]
        | some v => rw [henv t v hl hg, fillE_get σ a.tmps t v hg (by rw [hsz]; exact env_all_lt hσ hg)]
      simp only [Act.eval, Array.getD_eq_getD_getElem?, b, this]
    | const v => rfl
    | global g => rfl
    | func f => rfl
  have hexec := execOp_congr o hs' hev
  have key := t rd Ψ b w (fun a'' w' => ∃ v, a'' = b.put o.dst v ∧ K (a.put o.dst v) w') (fun _ _ _ => False) hb s (fun v h' Γ' w' x1 x2 x3 => ⟨v, rfl, hK v h' Γ' w' x1 x2 x3⟩)
  have hsize : a.tmps.size = b.tmps.size := (fillE_size σ a.tmps).symm
  have fin : ∀ v w', (∃ u, b.put o.dst v = b.put o.dst u ∧ K (a.put o.dst u) w') → K (a.put o.dst v) w' := fun v w' ⟨u, e, hu⟩ => by
    rw [put_eq_of hsize e]; exact hu
  refine ⟨fun f _ => trivial, ?_⟩
  have key2 := key.2
  rw [Oper.semAt_eq _ _ _ hdef] at key2 ⊢
  rw [hexec]
  generalize (execOp b.eval o).run P w = r at key2
  cases r with
  | ok x w' =>
    cases x <;> simp only [Oper.uponIn] at key2 ⊢
    case value v => exact fin v w' key2
    case skip => exact fin undef w' key2
    case defer d =>
      obtain ⟨u, e, hu⟩ := key2
      exfalso
      have : d :: b.defers = b.defers := by
        have h1 := congrArg Act.defers e
        cases hd : o.dst with
        | none => rw [hd] at h1; exact h1
        | some x => rw [hd] at h1; exact h1
      have := congrArg List.length this
      simp at this
    case enter f args => exact ⟨key2.1, CallsIn.mono key2.2 fun e w'' he => by
      cases e with
      | returned v => exact fin v w'' he
      | panicked c => exact he.elim
      | outgrown => obtain ⟨_, _, hf⟩ := he; exact hf.elim⟩
    case row row args => exact ⟨key2.1, RowsIn.mono key2.2 fun v w'' he => fin v w'' he⟩
    case round l' f tmps assign body => exact ⟨key2.1, RoundIn.mono key2.2 fun e w'' he => by
      cases e with
      | returned v => exact fin v w'' he
      | panicked c => exact he.elim
      | outgrown => obtain ⟨_, _, hf⟩ := he; exact hf.elim⟩
  | halt x w' =>
    cases x <;> simp only [Oper.uponIn] at key2 ⊢

theorem eff_of {d : Option Nat} {op : Op} {ty : TypeId} {pos : String} {af : Array Edge} (ho : l[i]? = some ⟨d, op, ty, pos, af, none⟩) (hsel : tame op = true)
    (hσ : (σ.all fun p => Nat.blt p.1 n) = true) (t : OpT P n ⟨d, op, ty, pos, af, none⟩ σ h Γ C) : EffAt l P n rd Q i σ h Γ C := by
  intro Ψ a w K hsz henv s hK
  have hd : dstOf l i = d := by simp [dstOf, ho]
  rw [hd] at hK
  have ho' : l.toArray[i]? = some ⟨d, op, ty, pos, af, none⟩ := by simpa using ho
  unfold wpOpIn
  simp only [ho', Region.wanted, if_true]
  exact opT_local (l := l) (o := ⟨d, op, ty, pos, af, none⟩) hsel hσ t Ψ a w K hsz (fun t v hl hv => henv t v (by unfold lookB; rw [ho]; exact hl) hv) s hK
/-- Guarded, and the guard says yes. -/
theorem eff_of_yes {d : Option Nat} {op : Op} {ty : TypeId} {pos : String} {af : Array Edge} {j tj : Nat} {want : Bool} (ho : l[i]? = some ⟨d, op, ty, pos, af, some (j, want)⟩) (hj : dstOf l j = some tj) (hv : σ.get tj = some (.bool want))
    (hsel : tame op = true)
    (hσ : (σ.all fun p => Nat.blt p.1 n) = true) (t : OpT P n ⟨d, op, ty, pos, af, some (j, want)⟩ σ h Γ C) : EffAt l P n rd Q i σ h Γ C := by
  intro Ψ a w K hsz henv s hK
  have hd : dstOf l i = d := by simp [dstOf, ho]
  rw [hd] at hK
  have ho' : l.toArray[i]? = some ⟨d, op, ty, pos, af, some (j, want)⟩ := by simpa using ho
  have hj' : (l.toArray[j]?).bind (·.dst) = some tj := by simpa [dstOf] using hj
  have hlook : lookB l i tj = true := by
    unfold lookB; rw [ho]
    have : (l[j]?).bind (·.dst) = some tj := hj
    simp [Oper.looksAt, this]
  have htv := henv tj _ hlook hv
  unfold wpOpIn
  have hw : Region.wanted ⟨d, op, ty, pos, af, some (j, want)⟩ (yielded l.toArray a.tmps) = true := by
    simp only [Region.wanted, yielded, hj', Option.bind_some, htv]; simp
  simp only [ho', hw, if_true]
  exact opT_local (l := l) (o := ⟨d, op, ty, pos, af, some (j, want)⟩) hsel hσ t Ψ a w K hsz (fun t v hl hv => henv t v (by unfold lookB; rw [ho]; exact hl) hv) s hK
theorem eff_of_no {d : Option Nat} {op : Op} {ty : TypeId} {pos : String} {af : Array Edge} {j tj : Nat} {want : Bool} {u : Value} (ho : l[i]? = some ⟨d, op, ty, pos, af, some (j, want)⟩) (hj : dstOf l j = some tj) (hv : σ.get tj = some u)
    (hu : isB u want = false) : EffAt l P n rd Q i σ h Γ (Det undef h Γ) := by
  intro Ψ a w K hsz henv s hK
  have hd : dstOf l i = d := by simp [dstOf, ho]
  rw [hd] at hK
  have ho' : l.toArray[i]? = some ⟨d, op, ty, pos, af, some (j, want)⟩ := by simpa using ho
  have hj' : (l.toArray[j]?).bind (·.dst) = some tj := by simpa [dstOf] using hj
  have hlook : lookB l i tj = true := by
    unfold lookB; rw [ho]
    have : (l[j]?).bind (·.dst) = some tj := hj
    simp [Oper.looksAt, this]
  have htv := henv tj _ hlook hv
  unfold wpOpIn
  have hw : Region.wanted ⟨d, op, ty, pos, af, some (j, want)⟩ (yielded l.toArray a.tmps) = false := by
    simp only [Region.wanted, yielded, hj', Option.bind_some, htv]
    cases u <;> simp_all [isB]
  simp only [ho', hw, Bool.false_eq_true, if_false]
  exact ⟨fun f _ => trivial, hK undef h Γ w (.refl _) ⟨rfl, rfl, rfl⟩ s⟩
end

section
variable {l : List Oper} {P : Program} {n : Nat} {rd : Option Nat} {Q : Exit → Act → World → Prop} {Φ : Fr}
/-- The steps of such a region, in the walk's words. -/
theorem dp_q {i : Nat} {rest np : List Nat} {σ : Env} {h0 hc : Heap} {Γ0 Γx : List HP} {d : Nat} {v : Value} {op : Op} {ty : TypeId} {pos : String} {af : Array Edge} (ho : l[i]? = some ⟨some d, op, ty, pos, af, none⟩)
    (t : OpT P n ⟨some d, op, ty, pos, af, none⟩ σ h0 Γ0 (Det v h0 Γ0)) (hsel : tame op = true) (hσ : (σ.all fun p => Nat.blt p.1 n) = true) (hno : (rest.all fun k => !dirB l i k) = true)
    (H : DP l P n rd Q Φ rest (i :: np) ((d, v) :: σ) h0 Γ0 hc Γx) : DP l P n rd Q Φ (i :: rest) np σ h0 Γ0 hc Γx :=
  .quiet (by simp [dstOf, ho]) hno (eff_of ho hsel hσ t) H
theorem dp_p {i : Nat} {rest np : List Nat} {σ : Env} {h0 hc : Heap} {Γ0 Γx : List HP} {d : Nat} {v : Value} {op : Op} {ty : TypeId} {pos : String} {af : Array Edge} (ho : l[i]? = some ⟨some d, op, ty, pos, af, none⟩)
    (t : ∀ h Γ, OpT P n ⟨some d, op, ty, pos, af, none⟩ σ h Γ (Det v h Γ)) (hsel : tame op = true) (hσ : (σ.all fun p => Nat.blt p.1 n) = true) (hno : (rest.all fun k => !dirB l i k) = true)
    (H : DP l P n rd Q Φ rest np ((d, v) :: σ) h0 Γ0 hc Γx) : DP l P n rd Q Φ (i :: rest) np σ h0 Γ0 hc Γx :=
  .pure (by simp [dstOf, ho]) hno (fun h Γ => eff_of ho hsel hσ (t h Γ)) H
theorem dp_q_yes {i : Nat} {rest np : List Nat} {σ : Env} {h0 hc : Heap} {Γ0 Γx : List HP} {d : Nat} {v : Value} {op : Op} {ty : TypeId} {pos : String} {af : Array Edge} {j tj : Nat} {want : Bool} (ho : l[i]? = some ⟨some d, op, ty, pos, af, some (j, want)⟩) (hj : dstOf l j = some tj) (hv : σ.get tj = some (.bool want))
    (t : OpT P n ⟨some d, op, ty, pos, af, some (j, want)⟩ σ h0 Γ0 (Det v h0 Γ0)) (hsel : tame op = true) (hσ : (σ.all fun p => Nat.blt p.1 n) = true) (hno : (rest.all fun k => !dirB l i k) = true)
    (H : DP l P n rd Q Φ rest (i :: np) ((d, v) :: σ) h0 Γ0 hc Γx) : DP l P n rd Q Φ (i :: rest) np σ h0 Γ0 hc Γx :=
  .quiet (by simp [dstOf, ho]) hno (eff_of_yes ho hj hv hsel hσ t) H
theorem dp_q_no {i : Nat} {rest np : List Nat} {σ : Env} {h0 hc : Heap} {Γ0 Γx : List HP} {d : Nat} {op : Op} {ty : TypeId} {pos : String} {af : Array Edge} {j tj : Nat} {want : Bool} {u : Value} (ho : l[i]? = some ⟨some d, op, ty, pos, af, some (j, want)⟩) (hj : dstOf l j = some tj) (hv : σ.get tj = some u)
    (hu : isB u want = false) (hno : (rest.all fun k => !dirB l i k) = true)
    (H : DP l P n rd Q Φ rest (i :: np) ((d, undef) :: σ) h0 Γ0 hc Γx) : DP l P n rd Q Φ (i :: rest) np σ h0 Γ0 hc Γx :=
  .quiet (by simp [dstOf, ho]) hno (eff_of_no ho hj hv hu) H
/-- One effect that keeps the core. -/
theorem dp_e {e : Nat} {rest np : List Nat} {σ : Env} {h0 hc : Heap} {Γ0 Γx : List HP} {d : Option Nat} {op : Op} {ty : TypeId} {pos : String} {af : Array Edge} {C : Value → Heap → List HP → Prop} (ho : l[e]? = some ⟨d, op, ty, pos, af, none⟩)
    (t : OpT P n ⟨d, op, ty, pos, af, none⟩ σ hc (Γ0 ++ Γx) C) (hsel : tame op = true) (hσ : (σ.all fun p => Nat.blt p.1 n) = true)
    (ho1 : (rest.all fun k => (e :: rest).any fun m => dirB l k m) = true) (ho2 : ((e :: rest).all fun k => !dirB l e k) = true)
    (H : ∀ v h' Γ', hc.sub h' → C v h' Γ' → ∃ Γx', Γ'.Perm (Γ0 ++ Γx') ∧ DP l P n rd Q Φ rest np (consO d v σ) h0 Γ0 h' Γx') : DP l P n rd Q Φ (e :: rest) np σ h0 Γ0 hc Γx := by
  classical
  refine .eff [e] (by simp) ?_ (by simpa using ho2) (fun _ => C) (fun _ v h' Γ' => if hx : hc.sub h' ∧ C v h' Γ' then Classical.choose (H v h' Γ' hx.1 hx.2) else []) (fun e' he' => ?_) (fun e' v h' Γ' he' hs hc' => ?_) (fun e' v h' Γ' he' hs hc' => ?_)
  · refine List.all_eq_true.2 fun k hk => ?_
    rcases List.mem_cons.1 hk with rfl | hk
    · simp
    · have := List.all_eq_true.1 ho1 k hk
      rw [this]; simp
  · simp only [List.mem_singleton] at he'; subst he'
    exact eff_of ho hsel hσ t
  · rw [dif_pos ⟨hs, hc'⟩]; exact (Classical.choose_spec (H v h' Γ' hs hc')).1
  · simp only [List.mem_singleton] at he'; subst he'
    rw [dif_pos ⟨hs, hc'⟩]
    have hd : dstOf l e' = d := by simp [dstOf, ho]
    rw [hd]
    have her : (e' :: rest).erase e' = rest := by simp
    rw [her]; exact (Classical.choose_spec (H v h' Γ' hs hc')).2
/-- One effect behind all reads. -/
theorem dp_t {e : Nat} {rest np : List Nat} {σ : Env} {h0 hc : Heap} {Γ0 Γx : List HP} {d : Option Nat} {op : Op} {ty : TypeId} {pos : String} {af : Array Edge} {C : Value → Heap → List HP → Prop} (ho : l[e]? = some ⟨d, op, ty, pos, af, none⟩)
    (t : OpT P n ⟨d, op, ty, pos, af, none⟩ σ hc (Γ0 ++ Γx) C) (hsel : tame op = true) (hσ : (σ.all fun p => Nat.blt p.1 n) = true)
    (ho1 : (rest.all fun k => (e :: rest).any fun m => dirB l k m) = true) (ho2 : ((e :: rest).all fun k => !dirB l e k) = true) (hnp : (np.all fun k => (clo l e).contains k) = true)
    (H : ∀ v h' Γ', hc.sub h' → C v h' Γ' → DP l P n rd Q Φ rest [] (consO d v σ) h' Γ' h' []) : DP l P n rd Q Φ (e :: rest) np σ h0 Γ0 hc Γx := by
  refine .effT C ho1 ho2 hnp (eff_of ho hsel hσ t) fun v h' Γ' hs hc' => ?_
  have hd : dstOf l e = d := by simp [dstOf, ho]
  rw [hd]; exact H v h' Γ' hs hc'
theorem dp_ed {e : Nat} {rest np : List Nat} {σ : Env} {h0 hc : Heap} {Γ0 Γx : List HP} {d : Option Nat} {op : Op} {ty : TypeId} {pos : String} {af : Array Edge} {v : Value} (ho : l[e]? = some ⟨d, op, ty, pos, af, none⟩)
    (t : OpT P n ⟨d, op, ty, pos, af, none⟩ σ hc (Γ0 ++ Γx) (Det v hc (Γ0 ++ Γx))) (hsel : tame op = true) (hσ : (σ.all fun p => Nat.blt p.1 n) = true)
    (ho1 : (rest.all fun k => (e :: rest).any fun m => dirB l k m) = true) (ho2 : ((e :: rest).all fun k => !dirB l e k) = true)
    (H : DP l P n rd Q Φ rest np (consO d v σ) h0 Γ0 hc Γx) : DP l P n rd Q Φ (e :: rest) np σ h0 Γ0 hc Γx :=
  dp_e ho t hsel hσ ho1 ho2 fun v' h' Γ' _ ⟨a, b, c⟩ => ⟨Γx, by subst c; exact .refl _, by subst a b; exact H⟩
theorem dp_ed0 {e : Nat} {rest np : List Nat} {σ : Env} {h0 hc : Heap} {Γ0 : List HP} {d : Option Nat} {op : Op} {ty : TypeId} {pos : String} {af : Array Edge} {v : Value} (ho : l[e]? = some ⟨d, op, ty, pos, af, none⟩)
    (t : OpT P n ⟨d, op, ty, pos, af, none⟩ σ hc Γ0 (Det v hc Γ0)) (hsel : tame op = true) (hσ : (σ.all fun p => Nat.blt p.1 n) = true)
    (ho1 : (rest.all fun k => (e :: rest).any fun m => dirB l k m) = true) (ho2 : ((e :: rest).all fun k => !dirB l e k) = true)
    (H : DP l P n rd Q Φ rest np (consO d v σ) h0 Γ0 hc []) : DP l P n rd Q Φ (e :: rest) np σ h0 Γ0 hc [] :=
  dp_ed ho (by rw [List.append_nil]; exact t) hsel hσ ho1 ho2 H
theorem dp_e0 {e : Nat} {rest np : List Nat} {σ : Env} {h0 hc : Heap} {Γ0 : List HP} {d : Option Nat} {op : Op} {ty : TypeId} {pos : String} {af : Array Edge} {C : Value → Heap → List HP → Prop} (ho : l[e]? = some ⟨d, op, ty, pos, af, none⟩)
    (t : OpT P n ⟨d, op, ty, pos, af, none⟩ σ hc Γ0 C) (hsel : tame op = true) (hσ : (σ.all fun p => Nat.blt p.1 n) = true)
    (ho1 : (rest.all fun k => (e :: rest).any fun m => dirB l k m) = true) (ho2 : ((e :: rest).all fun k => !dirB l e k) = true)
    (H : ∀ v h' Γ', hc.sub h' → C v h' Γ' → ∃ Γx', Γ'.Perm (Γ0 ++ Γx') ∧ DP l P n rd Q Φ rest np (consO d v σ) h0 Γ0 h' Γx') : DP l P n rd Q Φ (e :: rest) np σ h0 Γ0 hc [] :=
  dp_e ho (by rw [List.append_nil]; exact t) hsel hσ ho1 ho2 H
theorem dp_td {e : Nat} {rest np : List Nat} {σ : Env} {h0 hc h' : Heap} {Γ0 Γx Γ' : List HP} {d : Option Nat} {op : Op} {ty : TypeId} {pos : String} {af : Array Edge} {v : Value} (ho : l[e]? = some ⟨d, op, ty, pos, af, none⟩)
    (t : OpT P n ⟨d, op, ty, pos, af, none⟩ σ hc (Γ0 ++ Γx) (Det v h' Γ')) (hsel : tame op = true) (hσ : (σ.all fun p => Nat.blt p.1 n) = true)
    (ho1 : (rest.all fun k => (e :: rest).any fun m => dirB l k m) = true) (ho2 : ((e :: rest).all fun k => !dirB l e k) = true) (hnp : (np.all fun k => (clo l e).contains k) = true)
    (H : DP l P n rd Q Φ rest [] (consO d v σ) h' Γ' h' []) : DP l P n rd Q Φ (e :: rest) np σ h0 Γ0 hc Γx :=
  dp_t ho t hsel hσ ho1 ho2 hnp fun v' h'' Γ'' _ ⟨a, b, c⟩ => by subst a b c; exact H
theorem dp_td0 {e : Nat} {rest np : List Nat} {σ : Env} {h0 hc h' : Heap} {Γ0 Γ' : List HP} {d : Option Nat} {op : Op} {ty : TypeId} {pos : String} {af : Array Edge} {v : Value} (ho : l[e]? = some ⟨d, op, ty, pos, af, none⟩)
    (t : OpT P n ⟨d, op, ty, pos, af, none⟩ σ hc Γ0 (Det v h' Γ')) (hsel : tame op = true) (hσ : (σ.all fun p => Nat.blt p.1 n) = true)
    (ho1 : (rest.all fun k => (e :: rest).any fun m => dirB l k m) = true) (ho2 : ((e :: rest).all fun k => !dirB l e k) = true) (hnp : (np.all fun k => (clo l e).contains k) = true)
    (H : DP l P n rd Q Φ rest [] (consO d v σ) h' Γ' h' []) : DP l P n rd Q Φ (e :: rest) np σ h0 Γ0 hc [] :=
  dp_td ho (by rw [List.append_nil]; exact t) hsel hσ ho1 ho2 hnp H
theorem dp_t0 {e : Nat} {rest np : List Nat} {σ : Env} {h0 hc : Heap} {Γ0 : List HP} {d : Option Nat} {op : Op} {ty : TypeId} {pos : String} {af : Array Edge} {C : Value → Heap → List HP → Prop} (ho : l[e]? = some ⟨d, op, ty, pos, af, none⟩)
    (t : OpT P n ⟨d, op, ty, pos, af, none⟩ σ hc Γ0 C) (hsel : tame op = true) (hσ : (σ.all fun p => Nat.blt p.1 n) = true)
    (ho1 : (rest.all fun k => (e :: rest).any fun m => dirB l k m) = true) (ho2 : ((e :: rest).all fun k => !dirB l e k) = true) (hnp : (np.all fun k => (clo l e).contains k) = true)
    (H : ∀ v h' Γ', hc.sub h' → C v h' Γ' → DP l P n rd Q Φ rest [] (consO d v σ) h' Γ' h' []) : DP l P n rd Q Φ (e :: rest) np σ h0 Γ0 hc [] :=
  dp_t ho (by rw [List.append_nil]; exact t) hsel hσ ho1 ho2 hnp H
theorem dp_done0 {np : List Nat} {σ : Env} {h0 hc : Heap} {Γ0 : List HP} (H : En n Φ (Q .normal) σ hc Γ0) : DP l P n rd Q Φ [] np σ h0 Γ0 hc [] := .done (by rw [List.append_nil]; exact H)
theorem en_draw0 {id : Nat} {ρ : Env} {h : Heap} {Γ : List HP} (ord : List Nat) (hm : P.follows .mixedOrders = true) (hchk : chk l n = true)
    (hord : (ord.all (fun i => decide (i < l.length)) && (List.range l.length).all fun i => ord.contains i) = true) (hnd : ord.Nodup) (dp : DP l P n rd Q Φ ord [] ρ h Γ h []) :
    En n Φ ((Code.region id l.toArray true).wpIn (fence rd) 0 P Q) ρ h Γ := en_draw ord hm hchk hord hnd (by simp) dp
end
end Go.Sx

/- Calls whose result is known; slices that a call owns; appends. -/
namespace Go.Sx

/-- The value is known, the chunks are as they were. -/
def DetW (v : Value) (Γ : List HP) : Value → Heap → List HP → Prop := fun v' _ Γ' => v' = v ∧ Γ' = Γ

section
variable {P : Program} {n : Nat} {ρ : Env} {h : Heap} {Γ : List HP} {ty : TypeId} {pos : String} {af : Array Edge} {gd : Option (Nat × Bool)}
theorem opT_callw {d : Option Nat} {g : Operand} {xs : Array Operand} {ts : Array TypeId} {f : FuncId} {first cap : Array Value} {vs args : List Value} {Γ1 Δ : List HP} {v : Value}
    (c : CT P f args h Γ1 (DetW v Γ1)) (hg : ρ.ev g = some (.func (.func f) first cap)) (hx : ρ.evs xs.toList = some vs) (ha : first.toList ++ vs ++ cap.toList = args) [t : Tk Γ Γ1 Δ] :
    OpT P n ⟨d, .call { callee := .value g, args := xs, argTypes := ts }, ty, pos, af, gd⟩ ρ h Γ (Det v h Γ) := by
  intro rd Φ a w K Q e s hk
  refine opT_call hg hx ha c rd Φ a w K Q e s fun v' h' Γ' w' hs ⟨Γ2, ⟨e1, e2⟩, e3⟩ s' => ?_
  subst e1 e2 e3
  exact hk v' h Γ w' (.refl _) ⟨rfl, rfl, rfl⟩ ((s'.heap hs).perm t.perm.symm)
variable {d : Nat} {Φ : Fr} {rd : Option Nat} {Q : Exit → Act → World → Prop} {ops : Array Oper} {rest : List Oper}
theorem en_calld {g : Operand} {xs : Array Operand} {ts : Array TypeId} {f : FuncId} {first cap : Array Value} {vs args : List Value} {Γ1 Δ : List HP} {v : Value}
    (c : CT P f args h Γ1 (DetW v Γ1)) (hg : ρ.ev g = some (.func (.func f) first cap)) (hx : ρ.evs xs.toList = some vs) (ha : first.toList ++ vs ++ cap.toList = args) (hd : Nat.blt d n = true) [t : Tk Γ Γ1 Δ]
    (H : En n Φ (wpListIn (fence rd) 0 P ops Q rest) ((d, v) :: ρ) h Γ) :
    En n Φ (wpListIn (fence rd) 0 P ops Q (⟨some d, .call { callee := .value g, args := xs, argTypes := ts }, ty, pos, af, none⟩ :: rest)) ρ h Γ :=
  en_det (opT_callw c hg hx ha) hd H
theorem en_calld0 {g : Operand} {xs : Array Operand} {ts : Array TypeId} {f : FuncId} {first cap : Array Value} {vs args : List Value} {Γ1 Δ : List HP} {v : Value}
    (c : CT P f args h Γ1 (DetW v Γ1)) (hg : ρ.ev g = some (.func (.func f) first cap)) (hx : ρ.evs xs.toList = some vs) (ha : first.toList ++ vs ++ cap.toList = args) [t : Tk Γ Γ1 Δ]
    (H : En n Φ (wpListIn (fence rd) 0 P ops Q rest) ρ h Γ) :
    En n Φ (wpListIn (fence rd) 0 P ops Q (⟨none, .call { callee := .value g, args := xs, argTypes := ts }, ty, pos, af, none⟩ :: rest)) ρ h Γ :=
  en_det0 (opT_callw c hg hx ha) H
end

/-! ### A slice and the array behind it, owned; what it holds -/
/-- v is a slice of m elements of type T, sz cells each; it owns the array behind it, whose first cells are xs. -/
def own (T : TypeId) (sz : Nat) (v : Value) (m : Nat) (xs : List Value) : HP := fun k =>
  xs.length = m * sz ∧ ((v = .slice none 0 0 ∧ m = 0 ∧ k = Heap.emp) ∨
    ∃ (b cap : Nat) (cs : List Value), v = .slice (some ⟨b, 0, none⟩) m cap ∧ k = Heap.one b (.cells cs.toArray T (0, 0)) ∧ m ≤ cap ∧ cap ≤ 9223372036854775807 ∧ cs.length = cap * sz ∧ cs.take (m * sz) = xs)

theorem own_nil (T : TypeId) (sz : Nat) : own T sz (.slice none 0 0) 0 [] Heap.emp := ⟨by simp, .inl ⟨rfl, rfl, rfl⟩⟩

theorem St.emp_chunk {Φ : Fr} {h : Heap} {p : HP} {Γ : List HP} {w : World} (hp : p Heap.emp) (s : St Φ h Γ w) : St Φ h (p :: Γ) w := by
  obtain ⟨k, hs, hd, s0, s1, e⟩ := s
  exact St.mk (k1 := Heap.emp) (k2 := k) hp hs (Heap.emp_disj _) (Heap.disj_emp _) hd s0 (Sat.emp _) s1 e

section
variable {n : Nat} {Φ : Fr} {Tt : Act → World → Prop} {ρ : Env} {h : Heap} {Γ : List HP}
theorem en_own_nil (T : TypeId) (sz : Nat) (H : En n Φ Tt ρ h (own T sz (.slice none 0 0) 0 [] :: Γ)) : En n Φ Tt ρ h Γ := fun a w rs e d s => H a w rs e d (s.emp_chunk (own_nil T sz))
/-- A block that is owned is the array of a slice. -/
theorem en_to_own {b : Nat} {T : TypeId} {cs : List Value} (sz m cap : Nat) (hm : m ≤ cap) (hc : cap ≤ 9223372036854775807) (hl : cs.length = cap * sz)
    (H : En n Φ Tt ρ h (own T sz (.slice (some ⟨b, 0, none⟩) m cap) m (cs.take (m * sz)) :: Γ)) : En n Φ Tt ρ h (box b T cs :: Γ) :=
  en_imp (fun k hk => ⟨by rw [List.length_take, hl, Nat.min_eq_left (Nat.mul_le_mul_right _ hm)], .inr ⟨b, cap, cs, rfl, hk, hm, hc, hl, rfl⟩⟩) H
/-- The array behind an owned slice that is not empty. -/
theorem en_of_own {T : TypeId} {sz m : Nat} {v : Value} {xs : List Value} (hm : 0 < m)
    (H : ∀ b cap cs, v = .slice (some ⟨b, 0, none⟩) m cap → m ≤ cap → cap ≤ 9223372036854775807 → cs.length = cap * sz → cs.take (m * sz) = xs → En n Φ Tt ρ h (box b T cs :: Γ)) : En n Φ Tt ρ h (own T sz v m xs :: Γ) := fun a w rs e d s => by
  obtain ⟨k1, k2, ⟨hl, hp⟩, r1, r2, r3, r4, r5, r6, r7, r8⟩ := s.head
  rcases hp with ⟨_, h0, _⟩ | ⟨b, cap, cs, hv, hk, hmc, hc, hlen, ht⟩
  · omega
  · exact H b cap cs hv hmc hc hlen ht a w rs e d (St.mk hk r1 r2 r3 r4 r5 r6 r7 r8)
/-- The shape of an owned slice. -/
theorem en_own_shape {T : TypeId} {sz m : Nat} {v : Value} {xs : List Value}
    (H : ∀ ad cap, v = .slice ad m cap → m ≤ cap → cap ≤ 9223372036854775807 → xs.length = m * sz → En n Φ Tt ρ h (own T sz v m xs :: Γ)) : En n Φ Tt ρ h (own T sz v m xs :: Γ) := fun a w rs e d s => by
  obtain ⟨k1, k2, ⟨hl, hp⟩, _⟩ := s.head
  rcases hp with ⟨hv, h0, _⟩ | ⟨b, cap, cs, hv, hk, hmc, hc, hlen, ht⟩
  · exact H none 0 (by rw [hv, h0]) (by omega) (by omega) hl a w rs e d s
  · exact H _ cap hv hmc hc hl a w rs e d s
end

/-- v is a slice of m elements, sz cells each, that leads to known cells xs. -/
def SlH (h : Heap) (sz : Nat) (v : Value) (m : Nat) (xs : List Value) : Prop :=
  xs.length = m * sz ∧ ∃ ad cap, v = .slice ad m cap ∧ m ≤ cap ∧ cap ≤ 9223372036854775807 ∧ (0 < m → ∃ b off, ad = some ⟨b, off, none⟩ ∧ CellsH h b off xs)
theorem SlH.mono {h k : Heap} (s : h.sub k) {sz : Nat} {v : Value} {m : Nat} {xs : List Value} (x : SlH h sz v m xs) : SlH k sz v m xs := by
  obtain ⟨hl, ad, cap, hv, hm, hc, hp⟩ := x
  exact ⟨hl, ad, cap, hv, hm, hc, fun h0 => by obtain ⟨b, off, e, hcs⟩ := hp h0; exact ⟨b, off, e, hcs.mono s⟩⟩
theorem SlH.nil (h : Heap) (sz : Nat) : SlH h sz (.slice none 0 0) 0 [] := ⟨by simp, none, 0, rfl, by omega, by omega, fun x => by omega⟩

section
variable {n : Nat} {Φ : Fr} {Tt : Act → World → Prop} {ρ : Env} {h : Heap} {Γ : List HP}
/-- An owned slice is known from now on. -/
theorem en_freeze_own {T : TypeId} {sz m : Nat} {v : Value} {xs : List Value}
    (H : ∀ h', h.sub h' → SlH h' sz v m xs → (∀ b cap, v = .slice (some ⟨b, 0, none⟩) m cap → h b = none) → En n Φ Tt ρ h' Γ) : En n Φ Tt ρ h (own T sz v m xs :: Γ) := fun a w rs e d s => by
  obtain ⟨k1, k2, ⟨hl, hp⟩, r1, r2, r3, r4, r5, r6, r7, r8⟩ := s.head
  rcases hp with ⟨hv, h0, hk⟩ | ⟨b, cap, cs, hv, hk, hmc, hc, hlen, ht⟩
  · exact H h (.refl _) ⟨hl, none, 0, by rw [hv, h0], by omega, by omega, fun x => by omega⟩ (fun b cap hb => by rw [hv] at hb; cases hb) a w rs e d s.drop
  · have s' : St (Φ.1, Marks rs ++ Φ.2) h (box b T cs :: Γ) w := St.mk hk r1 r2 r3 r4 r5 r6 r7 r8
    obtain ⟨y, hn⟩ := St.freeze (b := b) (o := .cells cs.toArray T (0, 0)) s'
    refine H _ (Heap.un_left _ _) ⟨hl, _, cap, hv, hmc, hc, fun _ => ⟨b, 0, rfl, fun j u hj => ?_⟩⟩ (fun b' cap' hb => by rw [hv] at hb; cases hb; exact hn) a w rs e d y
    have hcell : cs[j]? = some u := by
      rw [← ht, List.getElem?_take] at hj
      split at hj
      · exact hj
      · cases hj
    simp [cellH, Heap.un, hn, Heap.one, hcell]
end

section ops
variable {P : Program} {n : Nat} {ρ : Env} {h : Heap} {Γ : List HP} {d : Option Nat} {ty : TypeId} {pos : String} {af : Array Edge} {gd : Option (Nat × Bool)}
variable {T e : TypeId} {x y : Operand} {zs : List Value} {by_ sz : Nat} {Δ : List HP} {v u : Value}

/-- Where the cells that are appended come from. -/
def Src (h : Heap) (Γ : List HP) (sz : Nat) (u : Value) (m : Nat) (news : List Value) : Prop :=
  news.length = m * sz ∧ ∀ Ψ w, St Ψ h Γ w → ∃ ad cap, u = .slice ad m cap ∧ (0 < m → ∃ a, ad = some a ∧ ∀ j q, news[j]? = some q → w.cell? (a.add j) = some q)
theorem src_h {m : Nat} {news : List Value} (s : SlH h sz u m news) : Src h Γ sz u m news := by
  obtain ⟨hl, ad, cap, hv, _, _, hp⟩ := s
  refine ⟨hl, fun Ψ w st => ⟨ad, cap, hv, fun h0 => ?_⟩⟩
  obtain ⟨b, off, e, hc⟩ := hp h0
  exact ⟨_, e, fun j q hj => by rw [addr_add]; exact cell_of_h st.sat (hc j q hj)⟩
theorem src_box {b m cap : Nat} {U : TypeId} {cs : List Value} {G : List Value → List HP} (hm : cs.length = m * sz) [q : Upd Γ b U cs Δ G] : Src h Γ sz (.slice (some ⟨b, 0, none⟩) m cap) m cs :=
  ⟨hm, fun Ψ w st => ⟨_, cap, rfl, fun _ => ⟨_, rfl, fun j q' hj => by rw [addr_add, Nat.zero_add, cell_upd q st]; exact hj⟩⟩⟩

theorem cells_oneCell_of {w : World} {a : Addr} {q : Value} : True := trivial

/-- 'append(s, xs...)' onto an owned slice. -/
theorem opT_append [hT : Ty P T (.slice e)] [hI : Info P e zs sz by_] {m k : Nat} {xs news : List Value} [p : Pick Γ (own e sz v m xs) Δ] (hx : ρ.ev x = some v) (hy : ρ.ev y = some u) (hs : Src h Δ sz u k news)
    (h1 : ∀ q ∈ news, q.oneCell' = true) (hsz : 0 < sz) (h63 : m + k ≤ 9223372036854775807) (hb : (m + k) * by_ ≤ 140737488355328) :
    OpT P n ⟨d, .call { callee := .builtin .append, args := #[x, y], argTypes := #[T, T] }, ty, pos, af, gd⟩ ρ h Γ (fun v' h' Γ' => h' = h ∧ Γ' = own e sz v' (m + k) (xs ++ news) :: Δ ∧ (v' = .slice none 0 0 → m + k = 0)) :=
  opT_run (by simp) fun Φ a w e' s => by
    obtain ⟨i, z, hi1, hi2, hi3, hi4, hi5⟩ := hI.inf
    have hzs : z.cells.size = sz := by rw [hi3]; simp [hI.len]
    have s' := s.perm p.perm
    obtain ⟨k1, k2, ⟨hl, hp⟩, r1, r2, r3, r4, r5, r6, r7, r8⟩ := s'.head
    obtain ⟨hnl, hsrc⟩ := hs
    obtain ⟨ad, cap', hu, hcells⟩ := hsrc Φ w s'.drop
    have hrun : ∀ q w', (Builtin.append_ #[T, T] ty #[v, u]).run P w = .ok q w' → (execOp a.eval ⟨d, .call { callee := .builtin .append, args := #[x, y], argTypes := #[T, T] }, ty, pos, af, gd⟩).run P w = .ok (.value q) w' := fun q w' hr => by
      simp only [execOp, resolve, invoke, builtin, Sem.run_bind, Sem.run_pure, Result.andThen_ok, List.map_toArray, List.map_cons, List.map_nil, e'.ev hx, e'.ev hy, hr]
    by_cases hk0 : k = 0
    · subst hk0
      have hn : news = [] := List.eq_nil_of_length_eq_zero (by simpa using hnl)
      subst hn
      have hap : (Builtin.append_ #[T, T] ty #[v, u]).run P w = .ok v w := by
        rw [hu]
        rcases hp with ⟨hv, h0, _⟩ | ⟨b, cap, cs, hv, hk, hmc, hc, hlen, ht⟩
        · rw [hv]
          cases ad <;> simp [Builtin.append_, run_und hT.und, run_size hI, Builtin.lenOf, Builtin.firstCells, loadCells, loadCellsFrom, Sem.run, pure]
        · rw [hv]
          cases ad <;> simp [Builtin.append_, run_und hT.und, run_size hI, Builtin.lenOf, Builtin.firstCells, loadCells, loadCellsFrom, hmc, storeCells, Sem.run, pure]
      refine ⟨v, w, h, own e sz v (m + 0) (xs ++ []) :: Δ, hrun _ _ hap, .refl _, ⟨rfl, rfl, fun hv => ?_⟩, by simpa using s'⟩
      rcases hp with ⟨_, h0, _⟩ | ⟨b, cap, cs, hv', _⟩
      · omega
      · rw [hv'] at hv; cases hv
    · obtain ⟨a0, rfl, hcells'⟩ := hcells (by omega)
      have hnl' : news.length = k * i.size := by rw [hi4]; exact hnl
      have hwd : ∀ (o : Obj) (l : Heap), Sat l w → Sat l (w.drew.alloc o) := fun o l sl b o' eo => by
        have := sl.lt eo
        rw [RowKit.Below.heap_alloc _ o b (by simpa using this)]; exact sl b o' eo
      have hz63 : m + k ≤ maxLen := by simpa [maxLen] using h63
      have fresh : ∀ (old : Nat), old < m + k → ∀ v', v' = .slice (some ⟨w.heap.size, 0, none⟩) (m + k) (grownCap w (m + k) old e) →
          St Φ h (own e sz v' (m + k) (xs ++ news) :: Δ) (w.drew.alloc (.cells (xs.toArray ++ news.toArray ++ Builtin.zeroCells z.cells (grownCap w (m + k) old e - (m + k))) e)) := fun old ho v' hv' => by
        have hge := grownCap_ge w (m + k) old e
        have hcm : grownCap w (m + k) old e ≤ 9223372036854775807 := by simpa [maxLen] using grownCap_le_maxLen w (m + k) old e hz63
        have hs2 : St Φ h Δ w.drew := by
          obtain ⟨kk, q1, q2, q3, q4, q5⟩ := s'.drop
          exact ⟨kk, q1, q2, q3, q4, ⟨q5.os, q5.tape, q5.output⟩⟩
        have hal := St.alloc (.cells (xs.toArray ++ news.toArray ++ Builtin.zeroCells z.cells (grownCap w (m + k) old e - (m + k))) e) hs2
        refine hal.imp fun kk hkk => ⟨by rw [List.length_append, hl, hnl, Nat.add_mul], .inr ⟨w.heap.size, _, (xs ++ news ++ (Builtin.zeroCells z.cells (grownCap w (m + k) old e - (m + k))).toList), hv', ?_, hge, hcm, ?_, ?_⟩⟩
        · simp only [blk] at hkk
          rw [hkk]
          congr 2
          apply Array.ext'; simp
        · simp only [List.length_append, Array.length_toList, size_zeroCells, hzs, hl, hnl, ← Nat.add_mul]
          congr 1; omega
        · have : (xs ++ news).length = (m + k) * sz := by rw [List.length_append, hl, hnl, Nat.add_mul]
          rw [← this]; exact List.take_left
      have henv : ∀ o, SameEnv w (w.drew.alloc o) := fun o => ⟨rfl, rfl, rfl⟩
      rcases hp with ⟨hv, h0, hk⟩ | ⟨b, cap, cs, hv, hk, hmc, hc, hlen, ht⟩
      · have hxs : xs = [] := List.eq_nil_of_length_eq_zero (by rw [hl, h0]; simp)
        have hr := run_append_nil (P := P) w T ty e i z hT.und hi1 hi2 a0 k cap' news hnl' hcells' (by omega) (by omega) (by have := hb; rw [h0, Nat.zero_add] at this; rw [hi5]; omega)
        have h2 := hrun _ _ (by rw [hv, hu]; exact hr)
        have h3 := fresh 0 (by omega) _ rfl
        have ez : Array.toList (xs.toArray ++ news.toArray) = news := by simp [hxs]
        have ez' : xs.toArray ++ news.toArray = news.toArray := by apply Array.ext'; simpa using ez
        rw [ez', h0] at h3
        simp only [Nat.zero_add] at h3
        exact ⟨_, _, h, _, h2, .refl _, ⟨rfl, by rw [h0, Nat.zero_add], fun hh => (by cases hh)⟩, h3⟩
      · by_cases hroom : m + k ≤ cap
        · have hheap : w.heap[b]? = some (.cells cs.toArray e (0, 0)) := r6 b _ (by rw [hk, Heap.one_same])
          have hfit : m * i.size + news.length ≤ cs.toArray.size := by rw [hi4, hnl, ← Nat.add_mul]; simp [hlen]; exact Nat.mul_le_mul_right _ hroom
          have hr := run_append_room (P := P) w T ty e i hT.und hi1 b m cap cs.toArray hheap a0 k cap' news hnl' hcells' h1 hroom hfit
          have h2 := hrun _ _ (by rw [hv, hu]; exact hr)
          refine ⟨_, _, h, own e sz (.slice (some ⟨b, 0, none⟩) (m + k) cap) (m + k) (xs ++ news) :: Δ, h2, .refl _, ⟨rfl, rfl, fun hh => (by cases hh)⟩, ?_⟩
          refine s'.turn (fun k1' hk1' _ => ⟨Heap.one b (.cells (cs.take (m * sz) ++ news ++ cs.drop (m * sz + news.length)).toArray e (0, 0)), ⟨by rw [List.length_append, hl, hnl, Nat.add_mul], .inr ⟨b, cap, _, rfl, rfl, hroom, hc, ?_, ?_⟩⟩, ?_, ?_, ?_⟩) ⟨rfl, rfl, rfl⟩
          · have hle : m * sz + k * sz ≤ cap * sz := by rw [← Nat.add_mul]; exact Nat.mul_le_mul_right _ hroom
            simp only [List.length_append, List.length_take, List.length_drop, hlen, hnl]
            omega
          · have : (xs ++ news).length = (m + k) * sz := by rw [List.length_append, hl, hnl, Nat.add_mul]
            rw [ht, ← this]; exact List.take_left
          · rw [hi4]
            exact Sat.one (by simpa using setRow_heap w b _ _ e (0, 0) hheap)
          · intro c hc'
            left
            obtain ⟨_, hh⟩ := hk1'
            rcases hh with ⟨hh, _⟩ | ⟨b', cap2, cs2, hh, hh2, _⟩
            · rw [hv] at hh; cases hh
            · rw [hv] at hh; cases hh; rw [hh2]
              unfold Heap.one at *; split at hc' <;> simp_all
          · intro c hc' _
            obtain ⟨_, hh⟩ := hk1'
            rcases hh with ⟨hh, _⟩ | ⟨b', cap2, cs2, hh, hh2, _⟩
            · rw [hv] at hh; cases hh
            · rw [hv] at hh; cases hh; rw [hh2] at hc'
              exact setRow_other w b c _ (fun e0 => by subst e0; rw [Heap.one_same] at hc'; cases hc')
        · have holds : ∀ j q, xs[j]? = some q → w.cell? ((⟨b, 0, none⟩ : Addr).add j) = some q := fun j q hj => by
            have hheap : w.heap[b]? = some (.cells cs.toArray e (0, 0)) := r6 b _ (by rw [hk, Heap.one_same])
            rw [addr_add, Nat.zero_add]
            have hcell : cs[j]? = some q := by
              rw [← ht, List.getElem?_take] at hj
              split at hj
              · exact hj
              · cases hj
            simp [World.cell?, hheap, hcell]
          have hr := run_append_grow (P := P) w T ty e i z hT.und hi1 hi2 ⟨b, 0, none⟩ m cap xs (by rw [hi4]; exact hl) holds a0 k cap' news hnl' hcells' (by omega) (by omega) (growslice_fits (by omega) (by rw [hi5]; exact hb))
          have h2 := hrun _ _ (by rw [hv, hu]; exact hr)
          exact ⟨_, _, h, own e sz (.slice (some ⟨w.heap.size, 0, none⟩) (m + k) (grownCap w (m + k) cap e)) (m + k) (xs ++ news) :: Δ, h2, .refl _, ⟨rfl, rfl, fun hh => (by cases hh)⟩, fresh cap (by omega) _ rfl⟩
end ops
end Go.Sx

/- A range over a function: an iterator's contract; the rounds; the statement. -/
namespace Go.Sx

/-- yield, called: the round runs, and R is said of what it hands back and of the state behind it. -/
def YT (P : Program) (l : Nat) (xs : List Value) (h : Heap) (Γ : List HP) (R : Value → Heap → List HP → Prop) : Prop :=
  ∀ (Φ : Fr) (w : World), St Φ h Γ w → ∃ f tmps assign body, (Instr.yield l xs.toArray).run P w = .ok (.round l f tmps assign body) w ∧
    RoundIn Fence.wide 0 P l f tmps assign body w fun e w' => ∃ v h' Γ', e = .returned v ∧ h.sub h' ∧ R v h' Γ' ∧ St Φ h' Γ' w'

theorem opT_yield {P : Program} {n : Nat} {ρ : Env} {h : Heap} {Γ : List HP} {d : Option Nat} {g : Operand} {xs : Array Operand} {ts : Array TypeId} {ty : TypeId} {pos : String} {af : Array Edge} {gd : Option (Nat × Bool)} {l : Nat} {vs : List Value} {Γ1 Δ : List HP} {R : Value → Heap → List HP → Prop}
    (y : YT P l vs h Γ1 R) (hg : ρ.ev g = some (.func (.yield l) #[] #[])) (hx : ρ.evs xs.toList = some vs) [t : Tk Γ Γ1 Δ] :
    OpT P n ⟨d, .call { callee := .value g, args := xs, argTypes := ts }, ty, pos, af, gd⟩ ρ h Γ (fun v h' Γ' => ∃ Γ2, R v h' Γ2 ∧ Γ' = Γ2 ++ Δ) := by
  intro rd Φ a w K Q e s hk
  obtain ⟨f, tmps, assign, body, hy, hr⟩ := y (Φ.1, Δ ++ Φ.2) w (s.tk t)
  have hargs : xs.map a.eval = vs.toArray := by apply Array.ext'; simp [← e.evs hx]
  have hrun : (execOp a.eval ⟨d, .call { callee := .value g, args := xs, argTypes := ts }, ty, pos, af, gd⟩).run P w = .ok (.round l f tmps assign body) w := by
    unfold execOp
    simp only [resolve, e.ev hg, Deferred.ofValue, invoke, Sem.run_bind, Sem.run_pure, Result.andThen_ok, hargs, Array.empty_append]
    exact hy
  refine ⟨fun f _ => trivial, ?_⟩
  rw [Oper.semAt_eq _ _ _ (by simp), hrun, Oper.uponIn_round]
  refine ⟨fun hh => (by cases hh), ?_⟩
  have h0 : RoundIn (fence rd) 0 P l f tmps assign body w (fun e w' => ∃ v h' Γ', e = .returned v ∧ h.sub h' ∧ R v h' Γ' ∧ St (Φ.1, Δ ++ Φ.2) h' Γ' w') := by
    cases rd with
    | none => exact hr
    | some l => exact hr
  refine RoundIn.mono h0 fun e' w' ⟨v, h', Γ', he', hs, hR, s'⟩ => ?_
  subst he'
  exact hk v h' (Γ' ++ Δ) w' hs ⟨Γ', hR, rfl⟩ s'.untk

/-- An iterator: whatever the rounds do (J i: between two rounds, i having come; Jx: a round has said 'no more'), it hands over its elements in their order, till one says so. -/
def Iter (P : Program) (f : FuncId) (cap : List Value) (h0 : Heap) (elems : List Value) : Prop :=
  ∀ (l : Nat) (J : Nat → Heap → List HP → Prop) (Jx : Heap → List HP → Prop) (h : Heap) (Γ : List HP), h0.sub h → J 0 h Γ →
    (∀ i v h' Γ', elems[i]? = some v → h.sub h' → J i h' Γ' → YT P l [v] h' Γ' (fun b h2 Γ2 => (b = .bool true ∧ J (i + 1) h2 Γ2) ∨ (b = .bool false ∧ Jx h2 Γ2))) →
    CT P f (.func (.yield l) #[] #[] :: cap) h Γ (fun v h' Γ' => v = .tuple #[] ∧ (J elems.length h' Γ' ∨ Jx h' Γ'))

def recO (r : Loop) (s : LoopState) (c : Option Code) : Obj := .loop { r with state := s, pending := c }

/-- Between two rounds, the loop's record among the chunks. -/
def JL (l : Nat) (r : Loop) (J : Nat → Heap → List HP → Prop) (i : Nat) (h : Heap) (Γ : List HP) : Prop := ∃ Γ0, Γ = blk l (recO r .ready none) :: Γ0 ∧ J i h Γ0
def XL (l : Nat) (r : Loop) (X : Code → Heap → List HP → Prop) (h : Heap) (Γ : List HP) : Prop := ∃ c Γ0, Γ = blk l (recO r .done (some c)) :: Γ0 ∧ X c h Γ0
/-- What a round must come to. -/
def RQ (P : Program) (l : Nat) (r : Loop) (Ψ : Fr) (hs : Heap) (J : Nat → Heap → List HP → Prop) (X : Code → Heap → List HP → Prop) (i : Nat) : Exit → Act → World → Prop :=
  roundPost P l fun e w' => ∃ v h' Γ', e = .returned v ∧ hs.sub h' ∧ ((v = .bool true ∧ JL l r J (i + 1) h' Γ') ∨ (v = .bool false ∧ XL l r X h' Γ')) ∧ St Ψ h' Γ' w'
/-- Behind the assignment to the loop's left side. -/
def BQ0 (P : Program) (l : Nat) (body : Code) (Q : Exit → Act → World → Prop) : Act → World → Prop :=
  fun a₁ w₁ => ∃ w₂, (Instr.beginRound l).run P w₁ = .ok () w₂ ∧ body.wpIn (fence (some l)) 0 P Q a₁ w₂

theorem run_beginRound' {P : Program} {w : World} {l : Nat} {r : Loop} {c : Option Code} (h : w.heap[l]? = some (recO r .ready c)) : (Instr.beginRound l).run P w = .ok () (World.putO w l (recO r .busy c)) := by
  simp [recO] at h
  simp [Instr.beginRound, Instr.getLoop, getObj, setObj, Sem.run, bind, Sem.bind, pure, h, recO]
theorem run_endRound' {P : Program} {w : World} {l : Nat} {r : Loop} {c : Option Code} (j : Option Code) (h : w.heap[l]? = some (recO r .busy c)) : (Instr.endRound l j).run P w = .ok (.bool j.isNone) (World.putO w l (recO r (if j.isNone then .ready else .done) j)) := by
  simp [recO] at h
  simp [Instr.endRound, Instr.getLoop, getObj, setObj, Sem.run, bind, Sem.bind, pure, h, recO]

theorem St.unmark {E : World} {rs : List Nat} {Δ : List HP} {h : Heap} {Γ : List HP} {w : World} (s : St (E, Marks rs ++ Δ) h Γ w) : St (E, Δ) h Γ w := by
  induction rs with
  | nil => exact s
  | cons r rs ih => exact ih (St.frame_head.1 s).drop
theorem St.frame_mid {E : World} {Δ Δ' : List HP} {p : HP} {h : Heap} {Γ : List HP} {w : World} : St (E, Δ ++ p :: Δ') h Γ w ↔ St (E, Δ ++ Δ') h (p :: Γ) w := by
  constructor
  · intro s
    have : St (E, p :: (Δ ++ Δ')) h Γ w := by
      obtain ⟨k, a, b⟩ := s
      exact ⟨k, SepL.perm (List.Perm.append_left _ List.perm_middle) a, b⟩
    exact St.frame_head.1 this
  · intro s
    obtain ⟨k, a, b⟩ := St.frame_head.2 s
    exact ⟨k, SepL.perm (List.Perm.append_left _ List.perm_middle.symm) a, b⟩

section
variable {P : Program} {n : Nat} {l : Nat} {r : Loop} {E : World} {Δ : List HP} {hs h : Heap} {J : Nat → Heap → List HP → Prop} {X : Code → Heap → List HP → Prop} {i : Nat} {ρ : Env} {Γ : List HP}

theorem en_begin {body : Code} {Q : Exit → Act → World → Prop} {Q0 : Exit → Act → World → Prop} (H : En n (E, blk l (recO r .busy none) :: Δ) (body.wpIn (fence (some l)) 0 P Q) ρ h Γ) :
    En n (E, blk l (recO r .ready none) :: Δ) (Exit.then (BQ0 P l body Q) Q0 .normal) ρ h Γ := by
  intro a w rs e d s
  have s1 := St.frame_mid.1 s
  exact ⟨_, run_beginRound' s1.block, H a _ rs e d (St.frame_mid.2 s1.put)⟩
theorem en_rq {ex : Exit} {j : Option Code} (hj : (match ex with | .normal => none | .ret => some .ret | .exit id => some (.exit id) | .goto t => some (.goto t) | _ => none) = j) (hn : ex = .normal ∨ ex = .ret ∨ (∃ id, ex = .exit id) ∨ ∃ t, ex = .goto t)
    (hsub : hs.sub h) (hJ : match (generalizing := false) j with | none => J (i + 1) h Γ | some c => X c h Γ) : En n (E, blk l (recO r .busy none) :: Δ) (RQ P l r (E, Δ) hs J X i ex) ρ h Γ := by
  intro a w rs e d s
  have s1 := St.frame_mid.1 s
  have hend := run_endRound' (P := P) j s1.block
  have s2 := (s1.put (o' := recO r (if j.isNone then .ready else .done) j)).unmark
  have fin : ∃ v w', (Instr.endRound l j).run P w = .ok v w' ∧ ∃ v' h' Γ', Ending.returned v = .returned v' ∧ hs.sub h' ∧ ((v' = .bool true ∧ JL l r J (i + 1) h' Γ') ∨ (v' = .bool false ∧ XL l r X h' Γ')) ∧ St (E, Δ) h' Γ' w' := by
    refine ⟨_, _, hend, _, h, _, rfl, hsub, ?_, s2⟩
    cases j with
    | none => exact .inl ⟨rfl, Γ, rfl, hJ⟩
    | some c => exact .inr ⟨rfl, c, Γ, rfl, hJ⟩
  rcases hn with rfl | rfl | ⟨id, rfl⟩ | ⟨t, rfl⟩ <;> (simp only at hj; subst hj; exact fin)
theorem en_rq_n (hsub : hs.sub h) (hJ : J (i + 1) h Γ) : En n (E, blk l (recO r .busy none) :: Δ) (RQ P l r (E, Δ) hs J X i .normal) ρ h Γ := en_rq (j := none) rfl (.inl rfl) hsub hJ
theorem en_rq_exit {id : Nat} (hsub : hs.sub h) (hX : X (.exit id) h Γ) : En n (E, blk l (recO r .busy none) :: Δ) (RQ P l r (E, Δ) hs J X i (.exit id)) ρ h Γ := en_rq (j := some (.exit id)) rfl (.inr (.inr (.inl ⟨id, rfl⟩))) hsub hX
theorem en_rq_ret (hsub : hs.sub h) (hX : X .ret h Γ) : En n (E, blk l (recO r .busy none) :: Δ) (RQ P l r (E, Δ) hs J X i .ret) ρ h Γ := en_rq (j := some .ret) rfl (.inr (.inl rfl)) hsub hX
end

theorem run_endLoop' {P : Program} {w : World} {l : Nat} {r : Loop} {s : LoopState} {c : Option Code} (hs : s = .ready ∨ s = .done) (h : w.heap[l]? = some (recO r s c)) : ∃ o, (Instr.endLoop l).run P w = .ok c (World.putO w l o) := by
  simp [recO] at h
  rcases hs with rfl | rfl <;> exact ⟨_, by simp [Instr.endLoop, Instr.getLoop, getObj, setObj, Sem.run, bind, Sem.bind, pure, h]; rfl⟩

/-- 'for x := range g { body }', not in a round itself. -/
theorem en_range {P : Program} {n : Nat} {Φ : Fr} {ρ : Env} {h : Heap} {Γ : List HP} {Q : Exit → Act → World → Prop} {g : Operand} {assign body : Code} {f : FuncId} {cap : Array Value} {p : Nat} {elems : List Value}
    (J : Nat → Heap → List HP → Prop) (X : Code → Heap → List HP → Prop) (hg : ρ.ev g = some (.func (.func f) #[] cap)) (hp : Nat.blt p n = true) (it : Iter P f cap.toList h elems) (h0 : J 0 h Γ)
    (round : ∀ l r Ψ i v h' Γ', elems[i]? = some v → h.sub h' → J i h' Γ' →
      En n (Ψ.1, blk l (recO r .ready none) :: Ψ.2) (assign.wpIn (fence (some l)) 0 P (Exit.then (BQ0 P l body (RQ P l r Ψ h' J X i)) (fun _ _ _ => False))) ((p, v) :: ρ) h' Γ')
    (done : ∀ h' Γ', h.sub h' → J elems.length h' Γ' → En n Φ (Q .normal) ρ h' Γ')
    (left : ∀ c h' Γ', h.sub h' → X c h' Γ' → En n Φ (c.wpIn (fence none) 0 P Q) ρ h' Γ') :
    En n Φ ((Code.rangeFunc g #[p] assign body).wpIn (fence none) 0 P Q) ρ h Γ := by
  intro a w rs e d s
  refine wpIn_rangeFunc fun fn _ => ?_
  let rb := w.heap.size
  let w0 := w.alloc (.deferred (some []))
  let l := w0.heap.size
  let r : Loop := { state := .ready, pending := none, fn, tmps := a.tmps, params := #[p], assign, body, defers := rb }
  let w1 := w0.alloc (.loop r)
  have he : (Instr.enterLoop fn a.tmps #[p] assign body (fence none).round).run P w = .ok (l, [mark rb]) w1 := by
    rfl
  have s0 : St (Φ.1, Marks rs ++ Φ.2) h (blk rb (.deferred (some [])) :: Γ) w0 := s.alloc _
  have s1 : St (Φ.1, Marks rs ++ Φ.2) h (blk l (recO r .ready none) :: blk rb (.deferred (some [])) :: Γ) w1 := s0.alloc _
  have s2 : St (Φ.1, blk rb (.deferred (some [])) :: (Marks rs ++ Φ.2)) h (blk l (recO r .ready none) :: Γ) w1 := by
    refine St.frame_head.2 (s1.perm (.swap _ _ _))
  -- the rounds
  have hy : ∀ i v h' Γ', elems[i]? = some v → h.sub h' → JL l r J i h' Γ' → YT P l [v] h' Γ' (fun b h2 Γ2 => (b = .bool true ∧ JL l r J (i + 1) h2 Γ2) ∨ (b = .bool false ∧ XL l r X h2 Γ2)) := by
    rintro i v h' _ hv hsub ⟨Γ', rfl, hJ⟩ Ψ w' s'
    have hblk := s'.block
    refine ⟨fn, (a.tmps.setIfInBounds p v), assign, body, ?_, ?_⟩
    · simp [recO] at hblk
      simp [Instr.yield, Instr.getLoop, getObj, Sem.run, bind, Sem.bind, pure, hblk, r]
    · refine roundIn_of_wpIn trivial ?_
      have hEnv : EnvOK n (({ tmps := a.tmps, defers := [] } : Act).put (some p) v) ((p, v) :: ρ) := EnvOK.put (a := { tmps := a.tmps, defers := [] }) ⟨e.size, e.get⟩ hp v
      have s3 : St (Ψ.1, Marks [] ++ (blk l (recO r .ready none) :: Ψ.2)) h' Γ' w' := St.frame_head.2 s'
      exact round l r Ψ i v h' Γ' hv hsub hJ _ w' [] hEnv rfl s3
  have hct := it l (JL l r J) (XL l r X) h (blk l (recO r .ready none) :: Γ) (.refl _) ⟨Γ, rfl, h0⟩ hy
  refine ⟨l, [mark rb], w1, { target := .fn (.func f) cap, args := #[.func (.yield l) #[] #[]] }, w1, f, #[.func (.yield l) #[] #[]] ++ cap, w1, he, ?_, fun _ _ => trivial, ?_, fun hh => (by cases hh), ?_⟩
  · simp only [resolve, rangeCall, e.ev hg, Deferred.ofValue]
    simp [Act.eval, Sem.run, pure]
  · obtain ⟨fn', hf, hn, hb⟩ := hct.enters
    have hn' : ¬ fn'.name = "runtime.NumGoroutine" := by simpa using hn
    have hb' : ¬ fn'.body = none := by intro hh; rw [hh] at hb; cases hb
    simp [invoke, callFunc, program, Sem.run, bind, Sem.bind, hf, hn', hb', pure]
  · have hc := hct.run (Φ.1, blk rb (.deferred (some [])) :: (Marks rs ++ Φ.2)) w1 s2
    have hargs : (Value.func (.yield l) #[] #[] :: cap.toList).toArray = #[.func (.yield l) #[] #[]] ++ cap := by apply Array.ext'; simp
    rw [hargs] at hc
    have hc' : CallsIn (fence none) 0 P f (#[.func (.yield l) #[] #[]] ++ cap) w1 _ := callsIn_wide.2 hc
    refine CallsIn.mono hc' ?_
    rintro _ w3 ⟨v, h', Γ', rfl, hsub, ⟨_, hJX⟩, s3⟩
    have hdef : ([mark rb] ++ a.defers) = (rb :: rs).map mark := by rw [d]; rfl
    rcases hJX with ⟨Γ0, rfl, hJ⟩ | ⟨c, Γ0, rfl, hX⟩
    · obtain ⟨o, ho⟩ := run_endLoop' (P := P) (.inl rfl) s3.block
      refine ⟨none, _, ho, ?_⟩
      exact done h' Γ0 hsub hJ _ _ (rb :: rs) ⟨e.size, e.get⟩ hdef (s3.put (o' := o)).drop
    · obtain ⟨o, ho⟩ := run_endLoop' (P := P) (.inr rfl) s3.block
      refine ⟨some c, _, ho, ?_⟩
      exact left c h' Γ0 hsub hX _ _ (rb :: rs) ⟨e.size, e.get⟩ hdef (s3.put (o' := o)).drop
end Go.Sx

/- More operations: making slices and arrays, copies, bits, equality of arrays; maps keyed by pairs of ints. -/
namespace Go.Sx

section
variable {P : Program} {n : Nat} {ρ : Env} {h : Heap} {Γ : List HP} {d : Option Nat} {ty : TypeId} {pos : String} {af : Array Edge} {gd : Option (Nat × Bool)}
variable {T e U : TypeId} {x y : Operand} {zs : List Value} {by_ sz : Nat} {v : Value} {m k : Int} {t t' : TypeId} {kd : IntKind}

theorem madeCells_rep (z0 : Value) (sz c : Nat) (hsz : 0 < sz) : madeCells (List.replicate sz z0).toArray c = (List.replicate c z0).toArray := by
  apply Array.ext
  · simp [madeCells]
  · intro i h1 h2
    have hlt : i % sz < sz := Nat.mod_lt _ hsz
    simp [madeCells, Array.getElem!_eq_getD, hlt]

/-- 'make([]T, n)' at a type whose cells are all alike. -/
theorem opT_make {z0 : Value} [hT : Ty P T (.slice e)] [hI : Info P e zs sz by_] (hz : zs = List.replicate sz z0) (hsz : 0 < sz) (hx : ρ.ev x = some (.int .i64 m)) (h0 : 0 ≤ m) (hb : (by_ : Int) * m ≤ 281474976710656) (h63 : m ≤ 9223372036854775807) :
    OpT P n ⟨d, .makeSlice T x x, ty, pos, af, gd⟩ ρ h Γ (fun v h' Γ' => ∃ b, v = .slice (some ⟨b, 0, none⟩) m.toNat m.toNat ∧ h' = h ∧ Γ' = box b e (List.replicate (m.toNat * sz) z0) :: Γ) :=
  opT_newRow (f := fun a => .slice (some a) m.toNat m.toNat) (by simp) fun a en w Ψ s => by
    obtain ⟨i, z, h1, h2, h3, h4, h5⟩ := hI.inf
    have hr := run_make (P := P) w T e i z hT.und h1 h2 .i64 .i64 m m h0 (Int.le_refl _) (by rw [h5]; exact hb) h63
    rw [h3, hz, h4, madeCells_rep z0 sz _ hsz] at hr
    simp [execOp, en.ev hx, hr]

/-- A slice literal, a variadic call's list. -/
def evParts (ρ : Env) : List (Nat × Operand) → Option (List (Nat × Value))
  | [] => some []
  | (i, x) :: xs => match ρ.ev x with
    | some v => match evParts ρ xs with
      | some vs => some ((i, v) :: vs)
      | none => none
    | none => none
theorem EnvOK.parts {n : Nat} {a : Act} {ρ : Env} (he : EnvOK n a ρ) : ∀ {xs : List (Nat × Operand)} {vs : List (Nat × Value)}, evParts ρ xs = some vs → xs.map (fun p => (p.1, a.eval p.2)) = vs
  | [], vs, e => by simpa [evParts] using e
  | (i, x) :: xs, vs, e => by
    simp only [evParts] at e
    split at e
    · rename_i v hv
      split at e
      · rename_i us hus
        simp only [Option.some.injEq] at e
        subst e
        simp [he.ev hv, he.parts hus]
      · cases e
    · cases e
theorem opT_buildSlice {len : Nat} {ps : Array (Nat × Operand)} {vs : List (Nat × Value)} {cs : List Value} [hT : Ty P T (.slice e)] [hI : Info P e zs sz by_] (hp : evParts ρ ps.toList = some vs) (hsm : Nat.ble (len * sz) 16777216 = true)
    (hf : Instr.fill (fun i => some (i * sz, sz)) ((Array.range (len * sz)).map fun i => (if len * sz = 0 then #[] else zs.toArray)[i % (if len * sz = 0 then #[] else zs.toArray).size]!) vs = some cs.toArray) :
    OpT P n ⟨d, .buildSlice T len ps, ty, pos, af, gd⟩ ρ h Γ (fun v h' Γ' => ∃ b, v = .slice (some ⟨b, 0, none⟩) len len ∧ h' = h ∧ Γ' = box b e cs :: Γ) :=
  opT_newRow (f := fun a => .slice (some a) len len) (by simp) fun a en w Ψ s => by
    obtain ⟨z, hz, hr⟩ := run_zero (P := P) (w := w) hI
    have hps : (ps.map fun p => (p.1, a.eval p.2)).toList = vs := by rw [Array.toList_map]; exact en.parts hp
    have hlt : ¬ len * sz > 2 ^ 24 := by
      have : len * sz ≤ 16777216 := by simpa using hsm
      have e2 : (2 : Nat) ^ 24 = 16777216 := rfl
      omega
    simp only [execOp, Instr.buildSlice, Sem.run_bind, run_und hT.und, Result.andThen_ok, run_size hI, hps, hlt, if_false]
    by_cases h0 : len * sz = 0
    · simp only [h0, if_true] at hf
      simp only [h0, if_true, Sem.run_bind, Sem.run_pure, Result.andThen_ok, hf]
      simp [newRow]
    · simp only [h0, if_false] at hf
      simp only [h0, if_false, Sem.run_bind, Sem.run_pure, Result.andThen_ok, hr, hz, hf]
      simp [newRow]
theorem opT_build {ps : Array (Nat × Operand)} {vs : List (Nat × Value)} {cs : List Value} (hp : evParts ρ ps.toList = some vs) (hb : P.built T vs = some cs.toArray) : OpT P n ⟨d, .build T ps, ty, pos, af, gd⟩ ρ h Γ (Det (.agg cs.toArray) h Γ) :=
  opT_pure (by simp) fun a en w => by
    have hps : (ps.map fun p => (p.1, a.eval p.2)).toList = vs := by rw [Array.toList_map]; exact en.parts hp
    have := run_build (P := P) w T (ps.map fun p => (p.1, a.eval p.2)) cs.toArray (by rw [hps]; exact hb)
    simp [execOp, this]
theorem opT_makeMap : OpT P n ⟨d, .makeMap T none, ty, pos, af, gd⟩ ρ h Γ (fun v h' Γ' => ∃ b, v = .map (some b) ∧ h' = h ∧ Γ' = blk b (.map #[] 0) :: Γ) :=
  opT_run (by simp) fun Φ a w en s => ⟨_, _, h, blk w.heap.size (.map #[] 0) :: Γ, by
    simp [execOp, Instr.makeMap], .refl _, ⟨w.heap.size, rfl, rfl, rfl⟩, s.alloc _⟩

/-- 'copy(dst, src)' over the whole of an owned array that is as long. -/
theorem opT_copy {b cap cap' : Nat} {Δ : List HP} {G : List Value → List HP} {c : Nat} {u : Value} {cs xs : List Value} [hT : Ty P T (.slice e)] [hI : Info P e zs sz by_] [q : Upd Γ b e cs Δ G] (hx : ρ.ev x = some (.slice (some ⟨b, 0, none⟩) c cap)) (hy : ρ.ev y = some u)
    (hs : SlH h sz u c xs) (hl : cs.length = xs.length) (h1 : ∀ q ∈ xs, q.oneCell' = true) (hc : 0 < c) :
    OpT P n ⟨d, .call { callee := .builtin .copy, args := #[x, y], argTypes := #[T, U] }, ty, pos, af, gd⟩ ρ h Γ (Det (.int .i64 c) h (G xs)) :=
  opT_run (by simp) fun Φ a w en s => by
    obtain ⟨hxl, ad, cp, hu, _, _, hp⟩ := hs
    obtain ⟨b', off, had, hcs⟩ := hp hc
    have hheap := s.upd q
    have hsrc : ∀ j r, xs[j]? = some r → w.cell? ((⟨b', off, none⟩ : Addr).add j) = some r := fun j r hj => by
      rw [addr_add]; exact cell_of_h s.sat (hcs j r hj)
    have hld := run_loadCells_list (P := P) w ⟨b', off, none⟩ xs hsrc
    have hst := run_storeCells_at P b 0 e xs 0 cs.toArray w hheap (by simp [hl]) h1
    simp only [Nat.zero_add, Nat.add_zero, List.take_zero, List.nil_append] at hst
    have hdr : List.drop xs.length cs.toArray.toList = [] := by simp [hl]
    rw [hdr, List.append_nil] at hst
    refine ⟨.int .i64 c, w.setRow b xs.toArray, h, G xs, ?_, .refl _, ⟨rfl, rfl, rfl⟩, s.write q xs (setRow_heap w b _ _ e (0, 0) hheap) (fun k hk => setRow_other w b k _ hk) (setRow_env _ _ _)⟩
    have hmin : Nat.min c c = c := Nat.min_self c
    simp only [execOp, resolve, invoke, builtin, Sem.run_bind, Sem.run_pure, Result.andThen_ok, List.map_toArray, List.map_cons, List.map_nil, en.ev hx, en.ev hy, hu, had]
    simp [Builtin.copy_, run_und hT.und, run_size hI, Builtin.lenOf, hmin, Builtin.firstCells, ← hxl, hld, hst, goInt]

/-! #### Bits -/
theorem opT_shr {kd' : IntKind} (hx : ρ.ev x = some (.int kd m)) (hy : ρ.ev y = some (.int kd' k)) (h0 : 0 ≤ k) : OpT P n ⟨d, .binOp .shr t x y t', ty, pos, af, gd⟩ ρ h Γ (Det (.int kd (m.fdiv (2 ^ (min k.toNat kd.bits)))) h Γ) :=
  opT_pure (by simp) fun a en w => by
    have hk : ¬ k < 0 := by omega
    simp [execOp, en.ev hx, en.ev hy, eqGuard, binOp, Op.shift, hk, Sem.run, pure]
theorem opT_shl {kd' : IntKind} (hx : ρ.ev x = some (.int kd m)) (hy : ρ.ev y = some (.int kd' k)) (h0 : 0 ≤ k) : OpT P n ⟨d, .binOp .shl t x y t', ty, pos, af, gd⟩ ρ h Γ (Det (.int kd (kd.wrap (m * 2 ^ (min k.toNat kd.bits)))) h Γ) :=
  opT_pure (by simp) fun a en w => by
    have hk : ¬ k < 0 := by omega
    simp [execOp, en.ev hx, en.ev hy, eqGuard, binOp, Op.shift, hk, Sem.run, pure]
theorem opT_and (hx : ρ.ev x = some (.int kd m)) (hy : ρ.ev y = some (.int kd k)) : OpT P n ⟨d, .binOp .and t x y t', ty, pos, af, gd⟩ ρ h Γ (Det (.int kd (kd.wrap (BitVec.ofInt kd.bits m &&& BitVec.ofInt kd.bits k).toNat)) h Γ) :=
  opT_bin hx hy (by simp) (by simp) fun w => by simp [Op.intBits, Sem.run, pure]
theorem opT_or (hx : ρ.ev x = some (.int kd m)) (hy : ρ.ev y = some (.int kd k)) : OpT P n ⟨d, .binOp .or t x y t', ty, pos, af, gd⟩ ρ h Γ (Det (.int kd (kd.wrap (BitVec.ofInt kd.bits m ||| BitVec.ofInt kd.bits k).toNat)) h Γ) :=
  opT_bin hx hy (by simp) (by simp) fun w => by simp [Op.intBits, Sem.run, pure]
theorem opT_xor (hx : ρ.ev x = some (.int kd m)) (hy : ρ.ev y = some (.int kd k)) : OpT P n ⟨d, .binOp .xor t x y t', ty, pos, af, gd⟩ ρ h Γ (Det (.int kd (kd.wrap (BitVec.ofInt kd.bits m ^^^ BitVec.ofInt kd.bits k).toNat)) h Γ) :=
  opT_bin hx hy (by simp) (by simp) fun w => by simp [Op.intBits, Sem.run, pure]
theorem opT_andNot (hx : ρ.ev x = some (.int kd m)) (hy : ρ.ev y = some (.int kd k)) : OpT P n ⟨d, .binOp .andNot t x y t', ty, pos, af, gd⟩ ρ h Γ (Det (.int kd (kd.wrap (BitVec.ofInt kd.bits m &&& ~~~ (BitVec.ofInt kd.bits k)).toNat)) h Γ) :=
  opT_bin hx hy (by simp) (by simp) fun w => by simp [Op.intBits, Sem.run, pure]
theorem opT_neg (hx : ρ.ev x = some (.int .i64 m)) (hr : InI (-m)) : OpT P n ⟨d, .unOp .neg t x, ty, pos, af, gd⟩ ρ h Γ (Det (.int .i64 (-m)) h Γ) :=
  opT_pure (by simp) fun a en w => by
    have : (0 : Int) - m = -m := by omega
    simp [execOp, en.ev hx, Op.unary, Op.intArith, wrap_i64 hr, Sem.run, pure]

/-! #### Equality -/
theorem run_eqItems_one {α : Type} [DecidableEq α] (mk : α → Value) {dep : Nat} (h1 : One P e) (heq : ∀ (w : World) a b, (Op.equalIn dep e (mk a) (mk b)).run P w = .ok (decide (a = b)) w) (xs ys : List α) (w : World) : ∀ (is : List Nat), (∀ i ∈ is, i < xs.length ∧ i < ys.length) →
    (Op.eqItems dep e 1 (xs.map mk).toArray (ys.map mk).toArray is).run P w = .ok (is.all fun i => decide (xs[i]? = ys[i]?)) w
  | [], _ => by simp [Op.eqItems, Sem.run, pure]
  | i :: is, hi => by
    obtain ⟨h2, h3⟩ := hi i (by simp)
    have ih := run_eqItems_one mk h1 heq xs ys w is (fun j hj => hi j (by simp [hj]))
    have e1 : (part e (xs.map mk).toArray (i * 1)).run P w = .ok (mk xs[i]) w := by
      simp [part, run_isAgg_one h1, h2, Sem.run, pure]
    have e2 : (part e (ys.map mk).toArray (i * 1)).run P w = .ok (mk ys[i]) w := by
      simp [part, run_isAgg_one h1, h3, Sem.run, pure]
    simp only [Op.eqItems, Sem.run_bind, e1, e2, Result.andThen_ok, heq]
    have e3 : decide (xs[i]? = ys[i]?) = decide (xs[i] = ys[i]) := by simp [h2, h3]
    rw [List.all_cons, e3]
    by_cases hq : xs[i] = ys[i]
    · simp [hq, ih]
    · simp [hq]
theorem run_equal_list {α : Type} [DecidableEq α] (mk : α → Value) {len : Nat} [hT : Ty P t (.array len e)] [h1 : One P e] [hI : Info P e zs 1 by_] (heq : ∀ (w : World) dep a b, (Op.equalIn (dep + 1) e (mk a) (mk b)).run P w = .ok (decide (a = b)) w) (xs ys : List α) (hx : xs.length = len) (hy : ys.length = len) (w : World) :
    (Op.equal t (.agg (xs.map mk).toArray) (.agg (ys.map mk).toArray)).run P w = .ok (decide (xs = ys)) w := by
  obtain ⟨i, z, hi, _, _, hsz, _⟩ := hI.inf
  have hc : P.cellsOf e = 1 := by simp [Program.cellsOf, hi, hsz]
  unfold Op.equal Op.maxDepth
  rw [run_equalIn_array w 9999 _ _ hT.und hi, hc, run_eqItems_one mk h1 (fun w a b => heq w 9998 a b) xs ys w _ (by simp; omega)]
  congr 1
  rw [Bool.eq_iff_iff]
  simp only [List.all_eq_true, List.mem_range, decide_eq_true_eq]
  constructor
  · intro hh
    apply List.ext_getElem?
    intro j
    by_cases hj : j < len
    · exact hh j hj
    · simp [List.getElem?_eq_none (show xs.length ≤ j by omega), List.getElem?_eq_none (show ys.length ≤ j by omega)]
  · rintro rfl j _; rfl
/-- '==' and '!=' of arrays of ints, of bools. -/
theorem opT_eqArr {α : Type} [DecidableEq α] {mk : α → Value} {len : Nat} [hT : Ty P t (.array len e)] [h1 : One P e] [hI : Info P e zs 1 by_] (heq : ∀ (w : World) dep a b, (Op.equalIn (dep + 1) e (mk a) (mk b)).run P w = .ok (decide (a = b)) w) (hg : P.eqGuardType P.depth t = false)
    {xs ys : List α} (hx : ρ.ev x = some (.agg (xs.map mk).toArray)) (hy : ρ.ev y = some (.agg (ys.map mk).toArray)) (hxl : xs.length = len) (hyl : ys.length = len) : OpT P n ⟨d, .binOp .eql t x y t', ty, pos, af, gd⟩ ρ h Γ (Det (.bool (decide (xs = ys))) h Γ) :=
  opT_pure (by simp) fun a en w => by
    have h0 := run_eqGuard_agg (P := P) w .eql t x y (xs.map mk).toArray (ys.map mk).toArray hg
    have h2 := run_eql_struct (P := P) w t (xs.map mk).toArray (ys.map mk).toArray
    have h3 := run_equal_list mk (t := t) heq xs ys hxl hyl w
    unfold Op.equal Op.maxDepth at h3
    simp only [execOp, en.ev hx, en.ev hy, Sem.run_bind, h0, h2, h3, Result.andThen_ok, Sem.run, pure]
theorem opT_neArr {α : Type} [DecidableEq α] {mk : α → Value} {len : Nat} [hT : Ty P t (.array len e)] [h1 : One P e] [hI : Info P e zs 1 by_] (heq : ∀ (w : World) dep a b, (Op.equalIn (dep + 1) e (mk a) (mk b)).run P w = .ok (decide (a = b)) w) (hg : P.eqGuardType P.depth t = false)
    {xs ys : List α} (hx : ρ.ev x = some (.agg (xs.map mk).toArray)) (hy : ρ.ev y = some (.agg (ys.map mk).toArray)) (hxl : xs.length = len) (hyl : ys.length = len) : OpT P n ⟨d, .binOp .neq t x y t', ty, pos, af, gd⟩ ρ h Γ (Det (.bool (decide (xs ≠ ys))) h Γ) :=
  opT_pure (by simp) fun a en w => by
    have h0 := run_eqGuard_agg (P := P) w .neq t x y (xs.map mk).toArray (ys.map mk).toArray hg
    have h2 := run_neq_struct (P := P) w t (xs.map mk).toArray (ys.map mk).toArray
    have h3 := run_equal_list mk (t := t) heq xs ys hxl hyl w
    unfold Op.equal Op.maxDepth at h3
    have h4 : (!decide (xs = ys)) = decide (xs ≠ ys) := by simp
    simp only [execOp, en.ev hx, en.ev hy, Sem.run_bind, h0, h2, h3, h4, Result.andThen_ok, Sem.run, pure]
theorem eq_ints {kd : IntKind} (hE : Ty P e (.int kd)) (w : World) (dep : Nat) (a b : Int) : (Op.equalIn (dep + 1) e (.int kd a) (.int kd b)).run P w = .ok (decide (a = b)) w := by
  rw [run_equalIn_int w dep e kd kd a b hE.und]
  congr 1
theorem eq_bools (hE : Ty P e .bool) (w : World) (dep : Nat) (a b : Bool) : (Op.equalIn (dep + 1) e (.bool a) (.bool b)).run P w = .ok (decide (a = b)) w := by
  rw [run_equalIn_bool' w dep e a b hE.und]
  congr 1

/-! #### Maps whose keys are pairs of ints -/
def pairV (a b : Int) : Value := .agg #[.int .i64 a, .int .i64 b]
class PairKey (P : Program) (K : TypeId) : Prop where
  eq : ∀ (w : World) a b c d, (Op.equal K (pairV a b) (pairV c d)).run P w = .ok (decide (a = c ∧ b = d)) w
  und : ∃ fs, P.underlying K = some (.struct fs)
  chk : ∀ emp (w : World) a b, (Instr.checkKey emp 10000 K (pairV a b)).run P w = .ok () w
theorem mk_pairKey {K : TypeId} {f1 f2 : Field} (hu : P.underlying K = some (.struct #[f1, f2])) (hst : P.stoodInHeld K = false) (n1 : (f1.name == "_") = false) (n2 : (f2.name == "_") = false) (o1 : f1.offset = 0) (o2 : f2.offset = 1)
    [h1 : One P f1.type] [h2 : One P f2.type] [t1 : Ty P f1.type (.int .i64)] [t2 : Ty P f2.type (.int .i64)] : PairKey P K := by
  have hf : P.fieldsOf K = #[f1, f2] := by simp [Program.fieldsOf, hu]
  have m1 : f1.name ≠ "_" := by simpa using n1
  have m2 : f2.name ≠ "_" := by simpa using n2
  have part1 : ∀ (w : World) a b, (part f1.type #[Value.int .i64 a, .int .i64 b] f1.offset).run P w = .ok (.int .i64 a) w := fun w a b => by
    simp [part, run_isAgg_one h1, o1, Sem.run, pure]
  have part2 : ∀ (w : World) a b, (part f2.type #[Value.int .i64 a, .int .i64 b] f2.offset).run P w = .ok (.int .i64 b) w := fun w a b => by
    simp [part, run_isAgg_one h2, o2, Sem.run, pure]
  refine ⟨fun w a b c d => ?_, ⟨_, hu⟩, fun emp w a b => ?_⟩
  · unfold Op.equal Op.maxDepth pairV
    rw [run_equalIn_struct w 9999 K _ _ (by rw [hf]; exact hu) hst, hf]
    simp only [Op.eqFields, ne_eq, m1, m2, not_false_eq_true, if_true, Sem.run_bind, part1, part2, Result.andThen_ok, run_equalIn_int w 9998 _ .i64 .i64 _ _ t1.und, run_equalIn_int w 9998 _ .i64 .i64 _ _ t2.und]
    by_cases e1 : a = c
    · subst e1
      simp only [beq_self_eq_true, Bool.not_true, Bool.false_eq_true, if_false, Sem.run_bind, part2, Result.andThen_ok, run_equalIn_int w 9998 _ .i64 .i64 _ _ t2.und]
      by_cases e2 : b = d <;> simp [e2, Sem.run, pure]
    · simp [e1, Sem.run, pure]
  · have c1 : ∀ dep v, (Instr.checkKey emp (dep + 1) f1.type (.int .i64 v)).run P w = .ok () w := fun dep v => by
      simp [Instr.checkKey, run_und t1.und, Sem.run, pure]
    have c2 : ∀ dep v, (Instr.checkKey emp (dep + 1) f2.type (.int .i64 v)).run P w = .ok () w := fun dep v => by
      simp [Instr.checkKey, run_und t2.und, Sem.run, pure]
    have c3 : ∀ dep, (Instr.checkKey emp (dep + 2) K (pairV a b)).run P w = .ok () w := fun dep => by
      unfold pairV
      simp only [Instr.checkKey, Sem.run_bind, run_und hu, Result.andThen_ok]
      simp [m1, m2, part1, part2, run_und t1.und, run_und t2.und]
    exact c3 9998
/-- A map from pairs of ints to ints, of whose entries I is said. -/
def fmap (r : Nat) (I : Int → Int → Int → Prop) : HP := fun k => ∃ es clock, k = Heap.one r (.map es clock) ∧ ∀ e ∈ es.toList, ∃ a b v, e.key = pairV a b ∧ e.val = .int .i64 v ∧ I a b v

def PairsIn (I : Int → Int → Int → Prop) (es : List MapEntry) : Prop := ∀ e ∈ es, ∃ a b v, e.key = pairV a b ∧ e.val = .int .i64 v ∧ I a b v
theorem run_findPair {K : TypeId} [hK : PairKey P K] (I : Int → Int → Int → Prop) (a b : Int) : ∀ (es : List MapEntry) (i : Nat), PairsIn I es →
    (∀ w, (Instr.findAsking K (pairV a b) es i).run P w = .ok none w) ∨ ∃ j e v, (∀ w, (Instr.findAsking K (pairV a b) es i).run P w = .ok (some (i + j, .int .i64 v)) w) ∧ es[j]? = some e ∧ e.key = pairV a b ∧ e.val = .int .i64 v ∧ I a b v
  | [], i, _ => .inl (by simp [Instr.findAsking, Sem.run, pure])
  | e :: es, i, hall => by
    obtain ⟨c, d, v, hk, hv, hI⟩ := hall e (by simp)
    have he := fun w => hK.eq w a b c d
    by_cases hq : a = c ∧ b = d
    · obtain ⟨rfl, rfl⟩ := hq
      right
      refine ⟨0, e, v, fun w => ?_, rfl, hk, hv, hI⟩
      simp only [Instr.findAsking, Sem.run_bind, hk, he, Result.andThen_ok, and_self, decide_true, if_true, hv, Nat.add_zero, Sem.run, pure]
    · rcases run_findPair (hK := hK) I a b es (i + 1) (fun y hy => hall y (by simp [hy])) with h1 | ⟨j, e', v', h1, h2, h3⟩
      · left
        intro w
        simp only [Instr.findAsking, Sem.run_bind, hk, he, Result.andThen_ok, hq, decide_false, Bool.false_eq_true, if_false, h1]
      · right
        refine ⟨j + 1, e', v', fun w => ?_, by simpa using h2, h3⟩
        simp only [Instr.findAsking, Sem.run_bind, hk, he, Result.andThen_ok, hq, decide_false, Bool.false_eq_true, if_false, h1]
        congr 3; omega
theorem run_findKeyPair {K : TypeId} [hK : PairKey P K] (I : Int → Int → Int → Prop) (a b : Int) (es : List MapEntry) (hall : PairsIn I es) :
    (∀ w, (Instr.findKey K (pairV a b) es).run P w = .ok none w) ∨ ∃ j e v, (∀ w, (Instr.findKey K (pairV a b) es).run P w = .ok (some (j, .int .i64 v)) w) ∧ es[j]? = some e ∧ e.key = pairV a b ∧ e.val = .int .i64 v ∧ I a b v := by
  obtain ⟨fs, hu⟩ := hK.und
  have hnow : Instr.findNow (.struct fs) (pairV a b) es 0 = if es.isEmpty then some none else none := by
    cases es <;> rfl
  unfold Instr.findKey
  simp only [Sem.run_bind, run_und hu, Result.andThen_ok, hnow]
  cases es with
  | nil => left; simp [Sem.run, pure]
  | cons e es =>
    simp only [List.isEmpty_cons, Bool.false_eq_true, if_false]
    rcases run_findPair (P := P) (K := K) I a b (e :: es) 0 hall with h1 | ⟨j, e', v', h1, h2⟩
    · exact .inl h1
    · exact .inr ⟨j, e', v', by simpa using h1, h2⟩
theorem lookup_known {K E : TypeId} {r clock : Nat} {es : Array MapEntry} {a b : Int} {I : Int → Int → Int → Prop} (hT : Ty P T (.map K E)) (hK : PairKey P K) (hZ : ∀ w, (zeroValue E).run P w = .ok (.int .i64 0) w) (hall : PairsIn I es.toList) :
    ∃ ok : Bool, ∃ v : Int, (ok = true → I a b v) ∧ ∀ (w : World), w.heap[r]? = some (.map es clock) → (Instr.lookup T (.map (some r)) (pairV a b) true).run P w = .ok (.tuple #[.int .i64 v, .bool ok]) w := by
  have hget : ∀ w : World, w.heap[r]? = some (.map es clock) → (getObj r).run P w = .ok (.map es clock) w := fun w hh => by simp [getObj, Sem.run, bind, hh, pure]
  rcases run_findKeyPair (P := P) (K := K) I a b es.toList hall with h1 | ⟨j, e, v, h1, h2, h3, h4, h5⟩
  · refine ⟨false, 0, by simp, fun w hw => ?_⟩
    simp only [Instr.lookup, Sem.run_bind, run_und hT.und, Result.andThen_ok, hget w hw, hK.chk, h1, hZ, Sem.run_pure, if_true]
  · refine ⟨true, v, fun _ => h5, fun w hw => ?_⟩
    simp only [Instr.lookup, Sem.run_bind, run_und hT.und, Result.andThen_ok, hget w hw, hK.chk, h1, Sem.run_pure, if_true]
theorem opT_lookup {r clock : Nat} {es : Array MapEntry} {kv u : Value} {Δ : List HP} [t : Pick Γ (blk r (.map es clock)) Δ] (hl : ∀ (w : World), w.heap[r]? = some (.map es clock) → (Instr.lookup T (.map (some r)) kv true).run P w = .ok u w)
    (hx : ρ.ev x = some (.map (some r))) (hy : ρ.ev y = some kv) : OpT P n ⟨d, .lookup T x y true, ty, pos, af, gd⟩ ρ h Γ (Det u h Γ) :=
  opT_run (by simp) fun Φ aa w en s => ⟨u, w, h, Γ, by
    simp only [execOp, en.ev hx, en.ev hy, Sem.run_bind, hl w (s.perm t.perm).block, Result.andThen_ok, Sem.run, pure], .refl _, ⟨rfl, rfl, rfl⟩, s⟩
theorem en_fmap {Φ : Fr} {Tt : Act → World → Prop} {r : Nat} {I : Int → Int → Int → Prop} (H : ∀ es clock, PairsIn I es.toList → En n Φ Tt ρ h (blk r (.map es clock) :: Γ)) : En n Φ Tt ρ h (fmap r I :: Γ) := fun a w rs e dd s => by
  obtain ⟨k1, k2, ⟨es, clock, hk, hall⟩, r1, r2, r3, r4, r5, r6, r7, r8⟩ := s.head
  exact H es clock hall a w rs e dd (St.mk hk r1 r2 r3 r4 r5 r6 r7 r8)
theorem en_to_fmap {Φ : Fr} {Tt : Act → World → Prop} {r clock : Nat} {es : Array MapEntry} {I : Int → Int → Int → Prop} (hall : PairsIn I es.toList) (H : En n Φ Tt ρ h (fmap r I :: Γ)) : En n Φ Tt ρ h (blk r (.map es clock) :: Γ) :=
  en_imp (fun k hk => ⟨es, clock, hk, hall⟩) H
/-- Two chunks said as one, and the other way. -/
theorem en_fold2 {Φ : Fr} {Tt : Act → World → Prop} {p q r : HP} (hi : ∀ k, SepL [p, q] k → r k) (H : En n Φ Tt ρ h (r :: Γ)) : En n Φ Tt ρ h (p :: q :: Γ) := fun a w rs e dd s => by
  obtain ⟨k, ⟨k1, _, hp, ⟨k2, k3, hq, h3, h23, rfl⟩, h123, rfl⟩, y⟩ := s
  have h12 : k1.disj k2 := h123.anti (Heap.sub.refl _) (Heap.un_left _ _)
  have h13 : k1.disj k3 := h123.anti (Heap.sub.refl _) (Heap.un_right h23)
  refine H a w rs e dd ⟨k1.un (k2.un k3), ⟨k1.un k2, k3, hi _ ⟨k1, k2, hp, ⟨k2, Heap.emp, hq, rfl, Heap.disj_emp _, (Heap.un_emp _).symm⟩, h12, rfl⟩, h3, Heap.un_disj h13 h23, (Heap.un_assoc _ _ _).symm⟩, y⟩
theorem opT_mapUpdate {K E : TypeId} {r : Nat} {a b v : Int} {z : Operand} {I : Int → Int → Int → Prop} {Δ : List HP} [hT : Ty P T (.map K E)] [hK : PairKey P K] [t : Pick Γ (fmap r I) Δ] (hx : ρ.ev x = some (.map (some r))) (hy : ρ.ev y = some (pairV a b)) (hz : ρ.ev z = some (.int .i64 v)) (hI : I a b v) :
    OpT P n ⟨d, .mapUpdate T x y z, ty, pos, af, gd⟩ ρ h Γ (Det undef h (fmap r I :: Δ)) :=
  opT_skip (by simp) fun Φ aa w en s => by
    have s1 := s.perm t.perm
    obtain ⟨k, ⟨es, clock, rfl, hall⟩, sk⟩ := s1.pure_of
    have hheap : w.heap[r]? = some (.map es clock) := sk r _ (Heap.one_same r _)
    have hget : (getObj r).run P w = .ok (.map es clock) w := by simp [getObj, Sem.run, bind, hheap, pure]
    have hset : ∀ o, (setObj r o).run P w = .ok () (World.putO w r o) := fun o => by simp [setObj, Sem.run, bind, hheap, pure]
    obtain ⟨fs, hu⟩ := hK.und
    have fin : ∀ es' clock', (∀ e ∈ es'.toList, ∃ a b v, e.key = pairV a b ∧ e.val = .int .i64 v ∧ I a b v) → St Φ h (fmap r I :: Δ) (World.putO w r (.map es' clock')) := fun es' clock' hall' => by
      have s2 : St Φ h (blk r (.map es clock) :: Δ) w := by
        obtain ⟨k1, k2, hp, r1, r2, r3, r4, r5, r6, r7, r8⟩ := s1.head
        obtain ⟨es2, clock2, rfl, hall2⟩ := hp
        have := r6 r _ (Heap.one_same r _)
        rw [hheap] at this
        simp only [Option.some.injEq, Obj.map.injEq] at this
        obtain ⟨rfl, rfl⟩ := this
        exact St.mk rfl r1 r2 r3 r4 r5 r6 r7 r8
      exact (s2.put (o' := .map es' clock')).imp fun k hk => ⟨es', clock', hk, hall'⟩
    rcases run_findKeyPair (P := P) (K := K) I a b es.toList hall with h1 | ⟨j, e, v', h1, h2, h3, h4, h5⟩
    · refine ⟨_, h, _, ?_, .refl _, ⟨rfl, rfl, rfl⟩, fin (es.push ⟨pairV a b, .int .i64 v, clock⟩) (clock + 1) ?_⟩
      · simp only [execOp, en.ev hx, en.ev hy, en.ev hz, Instr.mapUpdate, Sem.run_bind, run_und hT.und, Result.andThen_ok, hget, hK.chk, h1, hset, Sem.run_pure]
      · intro e he
        simp only [Array.toList_push, List.mem_append, List.mem_singleton] at he
        rcases he with he | rfl
        · exact hall e he
        · exact ⟨a, b, v, rfl, rfl, hI⟩
    · have hkey : ((es[j]?).map (·.key)).getD (pairV a b) = pairV a b := by
        have : es[j]? = some e := by simpa using h2
        simp [this, h3]
      have hstay : (Instr.keyThatStays (pairV a b) (pairV a b)).run P w = .ok (pairV a b) w := by
        have hs : Instr.sameBits 10000 (pairV a b) (pairV a b) = true := by
          show Instr.sameBits (9999 + 1) (.agg _) (.agg _) = true
          simp [Instr.sameBits]
        simp [Instr.keyThatStays, hs]
      refine ⟨_, h, _, ?_, .refl _, ⟨rfl, rfl, rfl⟩, fin (es.modify j fun e => { e with key := pairV a b, val := .int .i64 v }) clock ?_⟩
      · simp only [execOp, en.ev hx, en.ev hy, en.ev hz, Instr.mapUpdate, Sem.run_bind, run_und hT.und, Result.andThen_ok, hget, hK.chk, h1, hkey, hstay, hset, Sem.run_pure]
      · intro e' he'
        obtain ⟨i, hi⟩ := List.mem_iff_getElem?.1 he'
        rw [Array.getElem?_toList, Array.getElem?_modify] at hi
        cases hq : es[i]? with
        | none => rw [hq] at hi; simp at hi
        | some e0 =>
          rw [hq] at hi
          simp only [Option.map_some, Option.some.injEq] at hi
          by_cases hji : j = i
          · rw [if_pos hji] at hi; cases hi; exact ⟨a, b, v, rfl, rfl, hI⟩
          · rw [if_neg hji] at hi; cases hi; exact hall _ (List.mem_iff_getElem?.2 ⟨i, by rw [Array.getElem?_toList]; exact hq⟩)
end
end Go.Sx

/- Tables: as many rows as there are, of w cells each. -/
namespace Go.Sx

def rows (n w : Nat) (f : Nat → Nat → Value) : List Value := (List.range (n * w)).map fun k => f (k / w) (k % w)
def row (w : Nat) (g : Nat → Value) : List Value := (List.range w).map g
def ints (n : Nat) (f : Nat → Int) : List Value := (List.range n).map fun i => .int .i64 (f i)

theorem rows_length (n w : Nat) (f : Nat → Nat → Value) : (rows n w f).length = n * w := by simp [rows]
theorem row_length (w : Nat) (g : Nat → Value) : (row w g).length = w := by simp [row]
theorem row_get {w : Nat} {g : Nat → Value} {j : Nat} (hj : j < w) : (row w g)[j]? = some (g j) := by simp [row, hj]
theorem div_mod_row {w i j : Nat} (hj : j < w) : (i * w + j) / w = i ∧ (i * w + j) % w = j := by
  have hw : 0 < w := by omega
  constructor
  · rw [Nat.mul_comm, Nat.mul_add_div hw, Nat.div_eq_of_lt hj, Nat.add_zero]
  · rw [Nat.mul_comm, Nat.mul_add_mod, Nat.mod_eq_of_lt hj]
theorem row_lt {n w i j : Nat} (hi : i < n) (hj : j < w) : i * w + j < n * w := by
  have : (i + 1) * w ≤ n * w := Nat.mul_le_mul_right _ hi
  rw [Nat.add_mul] at this; omega
theorem rows_get {n w : Nat} {f : Nat → Nat → Value} {i j : Nat} (hi : i < n) (hj : j < w) : (rows n w f)[i * w + j]? = some (f i j) := by
  simp [rows, row_lt hi hj, div_mod_row hj]
theorem rows_congr {n w : Nat} {f g : Nat → Nat → Value} (h : ∀ i j, i < n → j < w → f i j = g i j) : rows n w f = rows n w g := by
  unfold rows
  refine List.map_congr_left fun k hk => ?_
  have hk' : k < n * w := by simpa using hk
  have hw : 0 < w := by
    rcases Nat.eq_zero_or_pos w with e | e
    · subst e; simp at hk'
    · exact e
  exact h _ _ (Nat.div_lt_of_lt_mul (by rw [Nat.mul_comm]; exact hk')) (Nat.mod_lt _ hw)
theorem rows_zero (w : Nat) (f : Nat → Nat → Value) : rows 0 w f = [] := by simp [rows]
theorem rows_succ (n w : Nat) (f : Nat → Nat → Value) : rows (n + 1) w f = rows n w f ++ row w (f n) := by
  unfold rows row
  rw [Nat.add_mul, Nat.one_mul, List.range_add, List.map_append, List.map_map]
  congr 1
  refine List.map_congr_left fun j hj => ?_
  have hj' : j < w := by simpa using hj
  simp [div_mod_row hj']
theorem rows_set {n w : Nat} {f : Nat → Nat → Value} {i j : Nat} (hj : j < w) (v : Value) : (rows n w f).set (i * w + j) v = rows n w (fun a b => if a = i ∧ b = j then v else f a b) := by
  apply List.ext_getElem?
  intro k
  rw [List.getElem?_set]
  by_cases e : i * w + j = k
  · subst e
    by_cases hk : i * w + j < n * w
    · simp [rows, hk, div_mod_row hj]
    · simp [rows, hk]
  · simp only [e, if_false]
    by_cases hk : k < n * w
    · have hne : ¬ (k / w = i ∧ k % w = j) := by
        rintro ⟨rfl, rfl⟩
        exact e (by rw [Nat.mul_comm]; exact Nat.div_add_mod k w)
      simp [rows, hk, hne]
    · simp [rows, hk]
theorem row_congr {w : Nat} {g g' : Nat → Value} (h : ∀ j, j < w → g j = g' j) : row w g = row w g' := List.map_congr_left fun j hj => h j (by simpa using hj)
theorem row_set {w : Nat} {g : Nat → Value} {j : Nat} (v : Value) : (row w g).set j v = row w (fun b => if b = j then v else g b) := by
  apply List.ext_getElem?
  intro k
  rw [List.getElem?_set]
  by_cases e : j = k
  · subst e; by_cases hk : j < w <;> simp [row, hk]
  · by_cases hk : k < w
    · simp [row, hk, e, Ne.symm e]
    · simp [row, hk, e]
theorem rows_one (n : Nat) (f : Nat → Nat → Value) : rows n 1 f = (List.range n).map fun i => f i 0 := by
  unfold rows
  rw [Nat.mul_one]
  refine List.map_congr_left fun k _ => ?_
  simp [Nat.mod_one]
theorem replicate_rows (n w : Nat) (z : Value) : List.replicate (n * w) z = rows n w (fun _ _ => z) := by
  unfold rows; simp [List.map_const']
theorem replicate_row (w : Nat) (z : Value) : List.replicate w z = row w (fun _ => z) := by unfold row; simp [List.map_const']

/-- A row of a known table. -/
theorem SlH.slice {h : Heap} {sz : Nat} {v : Value} {m : Nat} {xs : List Value} (s : SlH h sz v m xs) : ∃ ad cap, v = .slice ad m cap ∧ m ≤ cap ∧ cap ≤ 9223372036854775807 ∧ (0 < m → ∃ b off, ad = some ⟨b, off, none⟩ ∧ CellsH h b off xs) := s.2
theorem CellsH.row {h : Heap} {b off n w : Nat} {f : Nat → Nat → Value} (c : CellsH h b off (rows n w f)) {i : Nat} (hi : i < n) : CellsH h b (off + i * w) (row w (f i)) := fun j u hj => by
  have hjw : j < w := by have := (List.getElem?_eq_some_iff.1 hj).1; simpa [row_length] using this
  rw [row_get hjw] at hj
  have := c (i * w + j) u (by rw [rows_get hi hjw]; exact hj)
  rw [Nat.add_assoc]; exact this
theorem CellsH.cell {h : Heap} {b off n w : Nat} {f : Nat → Nat → Value} (c : CellsH h b off (rows n w f)) {i j : Nat} (hi : i < n) (hj : j < w) : cellH h b (off + i * w + j) = some (f i j) :=
  c.row hi j _ (row_get hj)
theorem CellsH.get {h : Heap} {b off : Nat} {xs : List Value} (c : CellsH h b off xs) {i : Nat} (hi : i < xs.length) : cellH h b (off + i) = some xs[i] := c i _ (by simp [hi])

/-- More may be known. -/
def Heap.minus (h2 h : Heap) : Heap := fun x => if h x = none then h2 x else none
theorem Heap.minus_sub (h2 h : Heap) : (h2.minus h).sub h2 := fun x o hx => by
  unfold Heap.minus at hx; split at hx
  · exact hx
  · cases hx
theorem Heap.minus_disj (h2 h : Heap) : h.disj (h2.minus h) := fun x => by
  by_cases hx : h x = none
  · exact .inl hx
  · right; simp [Heap.minus, hx]
theorem St.known {Φ : Fr} {h h2 : Heap} {Γ : List HP} {w : World} (hs : h.sub h2) (s : St Φ h2 Γ w) : St (Φ.1, (fun k => k = h2.minus h) :: Φ.2) h Γ w := by
  obtain ⟨k, a, b, c, e, f⟩ := s
  refine St.frame_head.2 ⟨(h2.minus h).un k, ⟨_, k, rfl, a, b.anti (Heap.minus_sub _ _) (Heap.sub.refl _), rfl⟩, Heap.disj_un (Heap.minus_disj _ _) (b.anti hs (Heap.sub.refl _)), c.mono hs, (c.mono (Heap.minus_sub _ _)).un e, f⟩
theorem ct_up {P : Program} {f : FuncId} {args : List Value} {h h2 : Heap} {Γ : List HP} {R : Value → Heap → List HP → Prop} (hs : h.sub h2) (c : CT P f args h Γ R) :
    CT P f args h2 Γ (fun v h3 Γ' => ∃ h', h.sub h' ∧ R v h' Γ' ∧ h'.sub h3) := by
  refine ⟨c.enters, fun Φ w s => ?_⟩
  refine (c.run _ w (s.known hs)).mono fun e w' ⟨v, h', Γ', he, hsub, hR, s'⟩ => ?_
  obtain ⟨k, ⟨k1, k2, rfl, hk2, hdis, rfl⟩, hd', s0, s1', se⟩ := St.frame_head.1 s'
  have hd1 : h'.disj (h2.minus h) := hd'.anti (Heap.sub.refl _) (Heap.un_left _ _)
  refine ⟨v, h'.un (h2.minus h), Γ', he, ?_, ⟨h', hsub, hR, Heap.un_left _ _⟩, k2, hk2, Heap.un_disj (hd'.anti (Heap.sub.refl _) (Heap.un_right hdis)) hdis, s0.un (s1'.mono (Heap.un_left _ _)), s1'.mono (Heap.un_right hdis), se⟩
  intro b o ho
  by_cases hb : h b = none
  · have e1 : h2.minus h b = some o := by unfold Heap.minus; rw [if_pos hb]; exact ho
    exact Heap.un_right hd1 b o e1
  · cases hb' : h b with
    | none => exact absurd hb' hb
    | some o' =>
      have e2 := hs b o' hb'
      rw [ho] at e2; cases e2
      exact Heap.un_left _ _ b o (hsub b o hb')
theorem ct_upw {P : Program} {f : FuncId} {args : List Value} {h h2 : Heap} {Γ : List HP} {v : Value} (hs : h.sub h2) (c : CT P f args h Γ (DetW v Γ)) : CT P f args h2 Γ (DetW v Γ) :=
  (ct_up hs c).mono fun _ _ _ _ ⟨_, _, hR, _⟩ => hR
theorem ct_w {P : Program} {f : FuncId} {args : List Value} {h : Heap} {Γ : List HP} {v : Value} (c : CT P f args h Γ (Det v h Γ)) : CT P f args h Γ (DetW v Γ) :=
  c.mono fun _ _ _ _ ⟨a, _, b⟩ => ⟨a, b⟩
theorem cellH_box {h : Heap} {b : Nat} {T : TypeId} {cs : List Value} (e : h b = some (.cells cs.toArray T (0, 0))) {j : Nat} {v : Value} (hj : cs[j]? = some v) : cellH h b j = some v := by
  simp [cellH, e, hj]
theorem cellsH_box {h : Heap} {b : Nat} {T : TypeId} {cs : List Value} (e : h b = some (.cells cs.toArray T (0, 0))) : CellsH h b 0 cs := fun j v hj => by
  rw [Nat.zero_add]; exact cellH_box e hj

section
variable {P : Program} {n : Nat} {ρ : Env} {h : Heap} {Γ : List HP} {d : Option Nat} {ty : TypeId} {pos : String} {af : Array Edge} {gd : Option (Nat × Bool)}
variable {T U : TypeId} {x y : Operand} {cs zs : List Value} {by_ sz b : Nat} {Δ : List HP} {G : List Value → List HP}
/-- The whole of an owned variable. -/
theorem opT_loadW_own [hT : Agg P T] [hI : Info P T zs sz by_] [u : Upd Γ b U cs Δ G] (hx : ρ.ev x = some (.pointer (some ⟨b, 0, none⟩))) (hlen : cs.length = sz) : OpT P n ⟨d, .load T x, ty, pos, af, gd⟩ ρ h Γ (Det (.agg cs.toArray) h Γ) := by
  have t : TakeAt cs 0 sz cs := ⟨by rw [List.drop_zero, ← hlen, List.take_length], by omega⟩
  exact opT_loadA_own hx
end

theorem en_fzb {n : Nat} {Φ : Fr} {Tt : Act → World → Prop} {ρ : Env} {h : Heap} {Γ : List HP} {b : Nat} {T : TypeId} {cs : List Value}
    (H : ∀ h', h.sub h' → h' b = some (.cells cs.toArray T (0, 0)) → En n Φ Tt ρ h' Γ) : En n Φ Tt ρ h (box b T cs :: Γ) :=
  en_freeze (b := b) (o := .cells cs.toArray T (0, 0)) fun h' hs _ hb _ => H h' hs hb

section
variable {P : Program} {n : Nat} {ρ : Env} {h : Heap} {Γ : List HP} {d : Option Nat} {ty : TypeId} {pos : String} {af : Array Edge} {gd : Option (Nat × Bool)} {x y : Operand} {t t' : TypeId} {m k : Int}
/-- The same, with the result in other words. -/
theorem opT_add_to {c : Int} (hx : ρ.ev x = some (.int .i64 m)) (hy : ρ.ev y = some (.int .i64 k)) (hr : InI c) (e : m + k = c) : OpT P n ⟨d, .binOp .add t x y t', ty, pos, af, gd⟩ ρ h Γ (Det (.int .i64 c) h Γ) := by
  subst e; exact opT_add hx hy hr
theorem opT_sub_to {c : Int} (hx : ρ.ev x = some (.int .i64 m)) (hy : ρ.ev y = some (.int .i64 k)) (hr : InI c) (e : m - k = c) : OpT P n ⟨d, .binOp .sub t x y t', ty, pos, af, gd⟩ ρ h Γ (Det (.int .i64 c) h Γ) := by
  subst e; exact opT_sub hx hy hr
end

/-- A list of chunks, spelt out. -/
class LNorm (l : List HP) (l' : outParam (List HP)) : Prop where
  eq : l = l'
instance (priority := low) (l : List HP) : LNorm l l := ⟨rfl⟩
instance (l l' : List HP) [x : LNorm l l'] : LNorm ([] ++ l) l' := ⟨by rw [List.nil_append, x.eq]⟩
instance (p : HP) (l m l' : List HP) [x : LNorm (l ++ m) l'] : LNorm ((p :: l) ++ m) (p :: l') := ⟨by rw [List.cons_append, x.eq]⟩
theorem en_norm {n : Nat} {Φ : Fr} {Tt : Act → World → Prop} {ρ : Env} {h : Heap} {Γ Γ' : List HP} [x : LNorm Γ Γ'] (H : En n Φ Tt ρ h Γ') : En n Φ Tt ρ h Γ := by rw [x.eq]; exact H

section
variable {P : Program} {n : Nat} {Φ : Fr} {ρ : Env} {h : Heap} {Γ : List HP} {Q : Exit → Act → World → Prop} {F : Fence}
theorem en_scope {c : Code} (H : En n Φ (c.wpIn (fence none) 0 P (Exit.noGoto Q)) ρ h Γ) : En n Φ ((Code.scope c).wpIn (fence none) 0 P Q) ρ h Γ :=
  fun a w rs e d s => wpIn_wide.2 (wp_scope_straight (wpIn_wide.1 (H a w rs e d s)))
theorem en_label {l : Nat} (H : En n Φ (Q .normal) ρ h Γ) : En n Φ ((Code.label l).wpIn F 0 P Q) ρ h Γ := fun a w rs e d s => wpIn_label (H a w rs e d s)
theorem en_ng_n (H : En n Φ (Q .normal) ρ h Γ) : En n Φ (Exit.noGoto Q .normal) ρ h Γ := H
theorem en_ng_x {i : Nat} (H : En n Φ (Q (.exit i)) ρ h Γ) : En n Φ (Exit.noGoto Q (.exit i)) ρ h Γ := H
theorem en_ng_r (H : En n Φ (Q .ret) ρ h Γ) : En n Φ (Exit.noGoto Q .ret) ρ h Γ := H
end

/-- The chunk of an owned slice among the chunks. -/
class OwnIn (Γ : List HP) (v : Value) (T : outParam TypeId) (sz m : outParam Nat) (xs : outParam (List Value)) (Δ : outParam (List HP)) : Prop where
  perm : Γ.Perm (own T sz v m xs :: Δ)
instance (Γ : List HP) (v : Value) (T : TypeId) (sz m : Nat) (xs : List Value) : OwnIn (own T sz v m xs :: Γ) v T sz m xs Γ := ⟨.refl _⟩
instance (priority := low) (q : HP) (Γ Δ : List HP) (v : Value) (T : TypeId) (sz m : Nat) (xs : List Value) [x : OwnIn Γ v T sz m xs Δ] : OwnIn (q :: Γ) v T sz m xs (q :: Δ) := ⟨(x.perm.cons q).trans (.swap _ _ _)⟩
section
variable {P : Program} {n : Nat} {ρ : Env} {h : Heap} {Γ Δ Δ' : List HP} {d : Nat} {ty : TypeId} {pos : String} {af : Array Edge} {Φ : Fr} {rd : Option Nat} {Q : Exit → Act → World → Prop} {ops : Array Oper} {rest : List Oper}
variable {T e U : TypeId} {x y : Operand} {zs cs xs : List Value} {by_ sz m b cap : Nat} {v : Value} {G : List Value → List HP}
/-- One element more. -/
theorem en_app1 [hT : Ty P T (.slice e)] [hI : Info P e zs sz by_] [p : OwnIn Γ v e sz m xs Δ] [q : Upd Δ b U cs Δ' G] (hx : ρ.ev x = some v) (hy : ρ.ev y = some (.slice (some ⟨b, 0, none⟩) 1 cap)) (hl : Nat.beq cs.length sz = true) (h1 : cs.all Value.oneCell' = true)
    (hz : Nat.blt 0 sz = true) (hby : Nat.ble by_ 100000 = true) (hd : Nat.blt d n = true) (hm : m < 1000000000) (H : ∀ ad cp, m + 1 ≤ cp → cp ≤ 9223372036854775807 → En n Φ (wpListIn (fence rd) 0 P ops Q rest) ((d, .slice ad (m + 1) cp) :: ρ) h (own e sz (.slice ad (m + 1) cp) (m + 1) (xs ++ cs) :: Δ)) :
    En n Φ (wpListIn (fence rd) 0 P ops Q (⟨some d, .call { callee := .builtin .append, args := #[x, y], argTypes := #[T, T] }, ty, pos, af, none⟩ :: rest)) ρ h Γ := by
  have hl' : cs.length = 1 * sz := by rw [Nat.one_mul]; exact Nat.eq_of_beq_eq_true hl
  have hz' : 0 < sz := by simpa [Nat.blt_eq] using hz
  have hby' : by_ ≤ 100000 := by simpa using hby
  have hpk : Pick Γ (own e sz v m xs) Δ := ⟨p.perm⟩
  refine en_op (opT_append (k := 1) (m := m) (xs := xs) (news := cs) (Δ := Δ) (sz := sz) (v := v) hx hy (src_box hl') (fun q hq => List.all_eq_true.1 h1 q hq) hz' (by omega) (Nat.le_trans (Nat.mul_le_mul (by omega : m + 1 ≤ 1000000000) hby') (by decide))) hd fun v' h' Γ' _ ⟨e1, e2, _⟩ => ?_
  subst e1 e2
  exact en_own_shape fun ad cp hv h1 h2 _ => by subst hv; exact H ad cp h1 h2
end

/-- The value and the chunks behind the call are known. -/
def DetG (v : Value) (Γ2 : List HP) : Value → Heap → List HP → Prop := fun v' _ Γ' => v' = v ∧ Γ' = Γ2
section
variable {P : Program} {n : Nat} {ρ : Env} {h : Heap} {Γ Γ2 Γ3 : List HP} {ty : TypeId} {pos : String} {af : Array Edge} {gd : Option (Nat × Bool)}
theorem opT_callg {d : Option Nat} {g : Operand} {xs : Array Operand} {ts : Array TypeId} {f : FuncId} {first cap : Array Value} {vs args : List Value} {Γ1 Δ : List HP} {v : Value}
    (c : CT P f args h Γ1 (DetG v Γ2)) (hg : ρ.ev g = some (.func (.func f) first cap)) (hx : ρ.evs xs.toList = some vs) (ha : first.toList ++ vs ++ cap.toList = args) [t : Tk Γ Γ1 Δ] [l : LNorm (Γ2 ++ Δ) Γ3] :
    OpT P n ⟨d, .call { callee := .value g, args := xs, argTypes := ts }, ty, pos, af, gd⟩ ρ h Γ (Det v h Γ3) := by
  intro rd Φ a w K Q e s hk
  refine opT_call hg hx ha c rd Φ a w K Q e s fun v' h' Γ' w' hs ⟨Γ2', ⟨e1, e2⟩, e3⟩ s' => ?_
  subst e1 e2 e3
  exact hk v' h Γ3 w' (.refl _) ⟨rfl, rfl, rfl⟩ (l.eq ▸ s'.heap hs)
end

theorem rows_take {n w i : Nat} {f : Nat → Nat → Value} (hi : i < n) : TakeAt (rows n w f) (i * w) w (row w (f i)) := by
  have hle : i * w + w ≤ n * w := by
    have : (i + 1) * w ≤ n * w := Nat.mul_le_mul_right _ hi
    rw [Nat.add_mul] at this; omega
  refine ⟨?_, by rw [rows_length]; exact hle⟩
  apply List.ext_getElem?
  intro j
  rw [List.getElem?_take, List.getElem?_drop]
  by_cases hj : j < w
  · rw [if_pos hj, rows_get hi hj, row_get hj]
  · rw [if_neg hj]; simp [row, hj]
theorem res_cellA {P : Program} {ρ : Env} {h : Heap} {Γ Δ : List HP} {a b : Nat} {T U : TypeId} {cs zs : List Value} {sz by_ : Nat} {G : List Value → List HP} [hT : Agg P T] [hI : Info P T zs sz by_] [u : Upd Γ b U cs Δ G]
    (hg : ρ.get a = some (.pointer (some ⟨b, 0, none⟩))) (hl : Nat.beq cs.length sz = true) : Res P ρ h Γ (.cell a T) (.agg cs.toArray) :=
  .run fun n act w Ψ e s => by
    have h1 := e.get a _ hg
    have hc : ∀ j u', cs[j]? = some u' → w.cell? ⟨b, 0 + j, none⟩ = some u' := fun j u' hj => by rw [Nat.zero_add, cell_upd u s, hj]
    have := run_loadVar_agg hT hI (Nat.eq_of_beq_eq_true hl) hc
    simp [resOf, Array.getD_eq_getD_getElem?, h1, asAddr, Sem.run_bind]
    exact this

theorem upd_last (Γ0 : List HP) (b : Nat) (T : TypeId) (cs : List Value) : Upd (Γ0 ++ [box b T cs]) b T cs Γ0 (fun x => Γ0 ++ [box b T x]) := ⟨List.perm_append_comm, fun _ => (List.perm_append_comm (l₁ := [_]) (l₂ := Γ0))⟩
/-- In a region that draws: a store of a whole variable that nothing else in the region looks at. -/
theorem dp_sw {l : List Oper} {P : Program} {n : Nat} {rd : Option Nat} {Q : Exit → Act → World → Prop} {Φ : Fr} {e : Nat} {rest np : List Nat} {σ : Env} {h0 hc : Heap} {Γ0 : List HP} {ty T U : TypeId} {pos : String} {af : Array Edge} {x y : Operand} {b sz by_ : Nat} {zs cs us : List Value} [hI : Info P T zs sz by_]
    (ho : l[e]? = some ⟨none, .store T x y, ty, pos, af, none⟩) (hx : σ.ev x = some (.pointer (some ⟨b, 0, none⟩))) (hv : σ.ev y = some (.agg us.toArray)) (hlen : us.length = sz) (hl0 : Nat.beq cs.length sz = true) (h1 : ∀ q ∈ us, q.oneCell' = true) (hσ : (σ.all fun p => Nat.blt p.1 n) = true)
    (ho1 : (rest.all fun k => (e :: rest).any fun m => dirB l k m) = true) (ho2 : ((e :: rest).all fun k => !dirB l e k) = true)
    (H : DP l P n rd Q Φ rest np σ h0 Γ0 hc [box b U us]) : DP l P n rd Q Φ (e :: rest) np σ h0 Γ0 hc [box b U cs] := by
  have u := upd_last Γ0 b U cs
  have t : OpT P n ⟨none, .store T x y, ty, pos, af, none⟩ σ hc (Γ0 ++ [box b U cs]) (Det undef hc (Γ0 ++ [box b U us])) := opT_storeW (u := u) hx hv hlen hl0 h1
  exact dp_e ho t rfl hσ ho1 ho2 fun v h' Γ' _ ⟨e1, e2, e3⟩ => by subst e2 e3; exact ⟨[box b U us], .refl _, H⟩
end Go.Sx

/- Belts as plain data, and how they lie in memory. -/
namespace Go.Sx

structure HandD where
  takes : Nat → Bool
  str : Int
  tire : Int
  slip : Int
  rests : List Int
structure BeltD where
  nt : Nat
  tray : Nat → Nat → Int
  nh : Nat
  hand : Nat → HandD

def icell (t : Nat → Nat → Int) : Nat → Nat → Value := fun i m => .int .i64 (t i m)
abbrev trayL (t : Nat → Int) : List Value := row 5 fun m => .int .i64 (t m)
def hcell (H : HandD) (r : Value) (j : Nat) : Value :=
  if j < 5 then .bool (H.takes j) else if j = 5 then .int .i64 H.str else if j = 6 then .int .i64 H.tire else if j = 7 then .int .i64 H.slip else r
abbrev handL (H : HandD) (r : Value) : List Value := row 9 (hcell H r)

def IsInts (h : Heap) (v : Value) (l : List Int) : Prop := SlH h 1 v l.length (l.map (Value.int .i64))
def IsTrays (h : Heap) (v : Value) (n : Nat) (t : Nat → Nat → Int) : Prop := SlH h 5 v n (rows n 5 (icell t))
def IsHands (h : Heap) (v : Value) (n : Nat) (H : Nat → HandD) : Prop := ∃ rv : Nat → Value, SlH h 9 v n (rows n 9 fun i => hcell (H i) (rv i)) ∧ ∀ i, i < n → IsInts h (rv i) (H i).rests
def IsBelt (h : Heap) (v : Value) (b : BeltD) : Prop := ∃ tv hv, v = .agg #[tv, hv] ∧ IsTrays h tv b.nt b.tray ∧ IsHands h hv b.nh b.hand

theorem IsInts.mono {h k : Heap} (s : h.sub k) {v : Value} {l : List Int} (x : IsInts h v l) : IsInts k v l := SlH.mono s x
theorem IsTrays.mono {h k : Heap} (s : h.sub k) {v : Value} {n : Nat} {t : Nat → Nat → Int} (x : IsTrays h v n t) : IsTrays k v n t := SlH.mono s x
theorem IsHands.mono {h k : Heap} (s : h.sub k) {v : Value} {n : Nat} {H : Nat → HandD} (x : IsHands h v n H) : IsHands k v n H := by
  obtain ⟨rv, a, b⟩ := x; exact ⟨rv, a.mono s, fun i hi => (b i hi).mono s⟩
theorem IsBelt.mono {h k : Heap} (s : h.sub k) {v : Value} {b : BeltD} (x : IsBelt h v b) : IsBelt k v b := by
  obtain ⟨tv, hv, e, a, b⟩ := x; exact ⟨tv, hv, e, a.mono s, b.mono s⟩

theorem one_trayL (t : Nat → Int) : ∀ q ∈ trayL t, q.oneCell' = true := by simp [trayL, row, Value.oneCell']
theorem one_ints (n : Nat) (t : Nat → Nat → Int) (w : Nat) : ∀ q ∈ rows n w (icell t), q.oneCell' = true := by simp [rows, icell, Value.oneCell']
theorem one_handL (H : HandD) (ad : Option Addr) (m cap : Nat) : ∀ q ∈ handL H (.slice ad m cap), q.oneCell' = true := by
  intro q hq
  simp only [handL, row, List.mem_map, hcell] at hq
  obtain ⟨j, _, rfl⟩ := hq
  repeat' split
  all_goals rfl

theorem IsInts.shape {h : Heap} {v : Value} {l : List Int} (x : IsInts h v l) : ∃ ad cap, v = .slice ad l.length cap ∧ l.length ≤ cap ∧ cap ≤ 9223372036854775807 ∧ (0 < l.length → ∃ b off, ad = some ⟨b, off, none⟩ ∧ ∀ i (hi : i < l.length), cellH h b (off + i) = some (.int .i64 l[i])) := by
  obtain ⟨_, ad, cap, hv, hm, hc, hp⟩ := x
  refine ⟨ad, cap, hv, hm, hc, fun h0 => ?_⟩
  obtain ⟨b, off, e, hcs⟩ := hp h0
  exact ⟨b, off, e, fun i hi => hcs i _ (by simp [hi])⟩
end Go.Sx
